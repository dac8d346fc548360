/-
  Texts joined: W5, W11, W12, W13, Enc, V2, Br, BrA, P1, Eq, Ar, Lk1, V7, V8, Lk2, Lk3, Lk4, Fv, Sv, Pf, S0, S1, S2, S3, It, Rg, S4.
-/
import Derived.Test.YtnjfchigdpifmaaZ1
import Derived.Test.YtnjfchigdpifmaaZ2
import Derived.Test.YtnjfchigdpifmaaRows
import Derived.OpenShut
import Derived.Carry
import Derived.ChangeArms
import Derived.ChangeSame
import Derived.ChangeMaps5
import Derived.JoinedCond
import Derived.Deep.Slices
import Derived.DeepKeys
import Derived.Laws.CopyRow
namespace Go.Proofs.Ytnjfchigdpifmaa
set_option linter.unusedVariables false
set_option linter.unusedSimpArgs false
set_option maxHeartbeats 8000000
open Go.RowKit
set_option maxRecDepth 100000
theorem u64_nn (n : Int) : IntKind.u64.wrap n = ((IntKind.u64.wrap n).toNat : Int) := by
  have : 0 ≤ IntKind.u64.wrap n := by simp [IntKind.wrap, IntKind.bits, IntKind.signed]; omega
  omega
def intS (n : Int) : List UInt8 := putS (IntKind.u64.wrap n).toNat 8
theorem wint_ac (st : Bool × List UInt8) (n : Int) (hst : st.2.length ≤ 65536) :
    AC Try.prog 76 [.bp 0 0 0, I n] [wB st] (fun v bs' => v = .bp 0 0 0 ∧ bs' = [wB (addS st (intS n))]) := by
  have h := put64_ac (IntKind.u64.wrap n).toNat
  rw [← u64_nn] at h
  have h2 := add_ac st [intS n] hst (by simp) (by simp [intS, putS_length])
  refine AC.N Try.func76 Try.ntmps76 ?_
  intro X hρ hmks
  simp only [nx, Nat.reduceAdd, Nat.reduceSub, BEq.rfl]
  repeat' (first
    | ((first
    | ((with_reducible apply AP.k_any); first
             | refine AP.Z ?_
      )
    | ((with_reducible apply AP.k_any); refine AP.C (h) ?_)
    | ((with_reducible apply AP.k_any); refine AP.CB [(0, 0)] 0 (h2) ?_)
    )
      <;> (try simp only [nx, Nat.reduceAdd, Nat.reduceSub, BEq.rfl]))
    | ((with_reducible apply AP.k_nil); first
        | (refine AP.nil (hQ' _ ?_); clear hQ' Q')
        | refine AP.nil ?_)
    | ((with_reducible apply CP.k_reg); refine cp_regG fun Q' hQ' => ?_)
      | (with_reducible apply CP.k_reg1; refine cp_region ?_)
      | ((with_reducible apply CP.k_cond); first | refine cp_condT rfl ?_ | refine cp_condF rfl ?_ | refine cp_cond rfl (fun hc => ?_) (fun hc => ?_))
      | refine CP.go ?_
      | (simp only [List.append_eq, List.cons_append, List.nil_append]))
  (exact RetQ.A [(0, 0)] (by exact ⟨rfl, rfl⟩))
theorem put32_ac (x : Nat) (hx : x < 4294967296) :
    AC Try.prog 92 [.sc (.int .u32 (x : Int))] [] (fun v bs' => v = bs none (putS x 4) ∧ bs' = []) := by
  have h := (put_ac x 4 (by omega)).ro (r2 := bs none (putS x 4)) (by simp [AV.ro, ro_B])
  have hw : IntKind.u64.wrap (x : Int) = (x : Int) := by simp [IntKind.wrap, IntKind.bits, IntKind.signed]; omega
  rw [← hw] at h
  refine AC.N Try.func92 Try.ntmps92 ?_
  intro X hρ hmks
  simp only [nx, Nat.reduceAdd, Nat.reduceSub, BEq.rfl]
  repeat' (first
    | ((first
    | ((with_reducible apply AP.k_any); first
             | refine AP.S ?_
      )
    | ((with_reducible apply AP.k_any); refine AP.C (h) ?_)
    )
      <;> (try simp only [nx, Nat.reduceAdd, Nat.reduceSub, BEq.rfl]))
    | ((with_reducible apply AP.k_nil); first
        | (refine AP.nil (hQ' _ ?_); clear hQ' Q')
        | refine AP.nil ?_)
    | ((with_reducible apply CP.k_reg); refine cp_regG fun Q' hQ' => ?_)
      | (with_reducible apply CP.k_reg1; refine cp_region ?_)
      | ((with_reducible apply CP.k_cond); first | refine cp_condT rfl ?_ | refine cp_condF rfl ?_ | refine cp_cond rfl (fun hc => ?_) (fun hc => ?_))
      | refine CP.go ?_
      | (simp only [List.append_eq, List.cons_append, List.nil_append]))
  (refine RetQ.B [] ?_; (try dsimp only [resV, List.getD_cons_succ, List.getD_cons_zero]); (exact ⟨rfl, rfl⟩))
theorem wbytes_ac (st : Bool × List UInt8) (b : List UInt8) (hst : st.2.length ≤ 65536) (hb : b.length ≤ 100000000) :
    AC Try.prog 77 [.bp 0 0 0, bs none b] [wB st] (fun v bs' => v = .bp 0 0 0 ∧ bs' = [wB (addS (addS st (putS b.length 4)) b)]) := by
  have hw : IntKind.u32.wrap (b.length : Int) = (b.length : Int) := by simp [IntKind.wrap, IntKind.bits, IntKind.signed]; omega
  have h := put32_ac b.length (by omega)
  rw [← hw] at h
  have h2 := add_ac st [putS b.length 4, b] hst (by simp) (by simp [putS_length]; omega)
  refine AC.N Try.func77 Try.ntmps77 ?_
  intro X hρ hmks
  simp only [nx, Nat.reduceAdd, Nat.reduceSub, BEq.rfl]
  repeat' (first
    | ((first
    | ((with_reducible apply AP.k_any); first
             | refine AP.Z ?_
      )
    | ((with_reducible apply AP.k_any); refine AP.C (h) ?_)
    | ((with_reducible apply AP.k_any); refine AP.CB [(0, 0)] 0 (h2) ?_)
    )
      <;> (try simp only [nx, Nat.reduceAdd, Nat.reduceSub, BEq.rfl]))
    | ((with_reducible apply AP.k_nil); first
        | (refine AP.nil (hQ' _ ?_); clear hQ' Q')
        | refine AP.nil ?_)
    | ((with_reducible apply CP.k_reg); refine cp_regG fun Q' hQ' => ?_)
      | (with_reducible apply CP.k_reg1; refine cp_region ?_)
      | ((with_reducible apply CP.k_cond); first | refine cp_condT rfl ?_ | refine cp_condF rfl ?_ | refine cp_cond rfl (fun hc => ?_) (fun hc => ?_))
      | refine CP.go ?_
      | (simp only [List.append_eq, List.cons_append, List.nil_append]))
  (exact RetQ.A [(0, 0)] (by exact ⟨rfl, rfl⟩))
theorem wnew_ac : AC Try.prog 75 [] [] (fun v bs' => v = .bp 0 0 0 ∧ bs' = [wB (false, [])]) := by
  refine AC.N Try.func75 Try.ntmps75 ?_
  intro X hρ hmks
  simp only [nx, Nat.reduceAdd, Nat.reduceSub, BEq.rfl]
  repeat' (first
    | ((first
    | ((with_reducible apply AP.k_any); first
             | refine AP.S ?_
      )
    
    )
      <;> (try simp only [nx, Nat.reduceAdd, Nat.reduceSub, BEq.rfl]))
    | ((with_reducible apply AP.k_nil); first
        | (refine AP.nil (hQ' _ ?_); clear hQ' Q')
        | refine AP.nil ?_)
    | ((with_reducible apply CP.k_reg); refine cp_regG fun Q' hQ' => ?_)
      | (with_reducible apply CP.k_reg1; refine cp_region ?_)
      | ((with_reducible apply CP.k_cond); first | refine cp_condT rfl ?_ | refine cp_condF rfl ?_ | refine cp_cond rfl (fun hc => ?_) (fun hc => ?_))
      | refine CP.go ?_
      | (simp only [List.append_eq, List.cons_append, List.nil_append]))
  (exact RetQ.A [(0, 1)] (by exact ⟨rfl, rfl⟩))
/-- a writer behind its end: what it wrote may be read -/
abbrev wD (st : Bool × List UInt8) : Bx := .c tW [B true, B st.1, bs none st.2]
theorem wdone_ac (st : Bool × List UInt8) (hst : st.2.length ≤ 65536) :
    AC Try.prog 49 [.bp 0 0 0] [wB st] (fun v bs' => v = .tu [bs none (if st.1 then [] else st.2), I (if st.1 then 3 else 0)] ∧ bs' = [wD st]) := by
  obtain ⟨lg, acc⟩ := st
  have h := (wcat_ac [acc] (by simp) (by simp at hst ⊢; omega)).ro (r2 := bs none acc) (by simp [AV.ro, ro_B])
  cases lg with
  | true =>
    refine AC.N Try.func49 Try.ntmps49 ?_
    intro X hρ hmks
    simp only [nx, Nat.reduceAdd, Nat.reduceSub, BEq.rfl]
    refine CP.gh (gh_fz (b := 1) (u := 1) rfl rfl (by (repeat' (first | exact FzC.nil | apply FzC.cons | exact FzV.hd | apply FzV.ag | exact FzV.same))) (by (repeat' (first | exact FzB.nil | apply FzB.c | apply FzB.same | exact FzC.nil | apply FzC.cons | exact FzV.hd | apply FzV.ag | exact FzV.same)))) ?_
    simp only [ro_B]
    repeat' (first
      | ((first
      | ((with_reducible apply AP.k_any); first
               | refine AP.S ?_
               | (refine AP.Y ?_; dsimp only) | refine AP.G (fun hg => ?_) (fun hg => ?_)
               | (refine AP.V (fun c hnil => ?_); simp only [nz])
        )
      
      )
        <;> (try simp only [nx, Nat.reduceAdd, Nat.reduceSub, BEq.rfl]))
      | ((with_reducible apply AP.k_nil); first
          | (refine AP.nil (hQ' _ ?_); clear hQ' Q')
          | refine AP.nil ?_)
      | ((with_reducible apply CP.k_reg); refine cp_regG fun Q' hQ' => ?_)
        | (with_reducible apply CP.k_reg1; refine cp_region ?_)
        | ((with_reducible apply CP.k_cond); first | refine cp_condT rfl ?_ | refine cp_condF rfl ?_ | refine cp_cond rfl (fun hc => ?_) (fun hc => ?_))
        | refine CP.go ?_
        | (simp only [List.append_eq, List.cons_append, List.nil_append]))
    (exact RetQ.A [(0, 0)] (by exact ⟨rfl, rfl⟩))
  | false =>
    refine AC.N Try.func49 Try.ntmps49 ?_
    intro X hρ hmks
    simp only [nx, Nat.reduceAdd, Nat.reduceSub, BEq.rfl]
    refine CP.gh (gh_fz (b := 1) (u := 1) rfl rfl (by (repeat' (first | exact FzC.nil | apply FzC.cons | exact FzV.hd | apply FzV.ag | exact FzV.same))) (by (repeat' (first | exact FzB.nil | apply FzB.c | apply FzB.same | exact FzC.nil | apply FzC.cons | exact FzV.hd | apply FzV.ag | exact FzV.same)))) ?_
    simp only [ro_B]
    repeat' (first
      | ((first
      | ((with_reducible apply AP.k_any); first
               | refine AP.S ?_
               | (refine AP.Y ?_; dsimp only) | refine AP.G (fun hg => ?_) (fun hg => ?_)
               | (refine AP.V (fun c hnil => ?_); simp only [nz])
        )
      | ((with_reducible apply AP.k_any); refine AP.C (h) ?_)
        | ((with_reducible apply AP.k_any); refine AP.gh (gh_fz (b := 1) (u := 2) rfl rfl (by (repeat' (first | exact FzC.nil | apply FzC.cons | exact FzV.hd | apply FzV.ag | exact FzV.same))) (by (repeat' (first | exact FzB.nil | apply FzB.c | apply FzB.same | exact FzC.nil | apply FzC.cons | exact FzV.hd | apply FzV.ag | exact FzV.same)))) ?_; first | simp only [roE, roC, AV.ro, ro_B, ro_M, ro_E] | simp only [roE, roC, AV.ro, ro_B])
      )
        <;> (try simp only [nx, Nat.reduceAdd, Nat.reduceSub, BEq.rfl]))
      | ((with_reducible apply AP.k_nil); first
          | (refine AP.nil (hQ' _ ?_); clear hQ' Q')
          | refine AP.nil ?_)
      | ((with_reducible apply CP.k_reg); refine cp_regG fun Q' hQ' => ?_)
        | (with_reducible apply CP.k_reg1; refine cp_region ?_)
        | ((with_reducible apply CP.k_cond); first | refine cp_condT rfl ?_ | refine cp_condF rfl ?_ | refine cp_cond rfl (fun hc => ?_) (fun hc => ?_))
        | refine CP.go ?_
        | (simp only [List.append_eq, List.cons_append, List.nil_append]))
    (exact RetQ.A [(0, 0)] (by exact ⟨rfl, rfl⟩))
end Go.Proofs.Ytnjfchigdpifmaa

namespace Go.Proofs.Ytnjfchigdpifmaa
set_option linter.unusedVariables false
set_option linter.unusedSimpArgs false
set_option maxHeartbeats 8000000
open Go.RowKit
set_option maxRecDepth 100000
def beN (l : List UInt8) : Nat := l.foldl (fun x c => 256 * x + c.toNat) 0
theorem beN_snoc (l : List UInt8) (c : UInt8) : beN (l ++ [c]) = 256 * beN l + c.toNat := by simp [beN, List.foldl_append]
theorem beN_lt (l : List UInt8) : beN l < 256 ^ l.length := by
  have h : ∀ (l : List UInt8) (x : Nat), l.foldl (fun x c => 256 * x + c.toNat) x + 1 ≤ (x + 1) * 256 ^ l.length := by
    intro l
    induction l with
    | nil => intro x; simp
    | cons c l ih =>
      intro x
      refine Nat.le_trans (ih _) ?_
      rw [List.length_cons, Nat.pow_succ', ← Nat.mul_assoc]
      refine Nat.mul_le_mul_right _ ?_
      have := c.toNat_lt
      show 256 * x + c.toNat + 1 ≤ _
      omega
  have := h l 0
  simp only [beN]
  omega
def loadS (b : List UInt8) (p : Int) (n : Nat) : Nat × Bool := if p < 0 ∨ (b.length : Int) - n < p then (0, false) else (beN ((b.drop p.toNat).take n), true)
theorem or8 (x c : Nat) (hx : x < 2 ^ 56) (hc : c < 256) : IntKind.u64.wrap (BitVec.toNat (BitVec.ofInt 64 (IntKind.u64.wrap ((x : Int) * 2 ^ 8)) ||| BitVec.ofInt 64 (IntKind.u64.wrap (c : Int)))) = ((256 * x + c : Nat) : Int) := by
  have e1 : IntKind.u64.wrap ((x : Int) * 2 ^ 8) = ((x * 256 : Nat) : Int) := by simp [IntKind.wrap, IntKind.bits, IntKind.signed]; omega
  have e2 : IntKind.u64.wrap (c : Int) = (c : Int) := by simp [IntKind.wrap, IntKind.bits, IntKind.signed]; omega
  rw [e1, e2, BitVec.ofInt_natCast, BitVec.ofInt_natCast, BitVec.toNat_or, BitVec.toNat_ofNat, BitVec.toNat_ofNat, Nat.mod_eq_of_lt (by omega), Nat.mod_eq_of_lt (by omega)]
  have e3 : x * 256 ||| c = 256 * x + c := by
    have := Nat.shiftLeft_add_eq_or_of_lt (i := 8) (b := c) hc x
    rw [Nat.shiftLeft_eq, show (2 : Nat) ^ 8 = 256 from rfl] at this
    omega
  rw [e3]
  simp [IntKind.wrap, IntKind.bits, IntKind.signed]; omega
theorem or8' (x c : Nat) (hx : x < 2 ^ 56) (hc : c < 256) : IntKind.u64.wrap (BitVec.toNat (BitVec.ofInt IntKind.u64.bits (IntKind.u64.wrap ((x : Int) * 2 ^ min (Int.toNat 8) IntKind.u64.bits)) ||| BitVec.ofInt IntKind.u64.bits (IntKind.u64.wrap (c : Int)))) = ((256 * x + c : Nat) : Int) := or8 x c hx hc
theorem load_ac (b : List UInt8) (p : Int) (n : Nat) (hn : n ≤ 8) (hb : b.length ≤ 100000000) (hp : p ≤ 200000000) (hp2 : -1000000 ≤ p) :
    AC Try.prog 83 [bs none b, I p, I n] [] (fun v bs' => v = .tu [.sc (.int .u64 ((loadS b p n).1 : Int)), B (loadS b p n).2] ∧ bs' = []) := by
  have hw0 : IntKind.i64.wrap ((b.length : Int) - n) = (b.length : Int) - n := wrap_i64 (by omega) (by omega)
  have hw1 : IntKind.i64.wrap (p + n) = p + n := wrap_i64 (by omega) (by omega)
  by_cases hs : p < 0 ∨ (b.length : Int) - n < p
  · have e0 : loadS b p n = (0, false) := by simp [loadS, hs]
    rw [e0]
    refine AC.N Try.func83 Try.ntmps83 ?_
    intro X hρ hmks
    simp only [nx, Nat.reduceAdd, Nat.reduceSub, BEq.rfl]
    repeat' (first
      | ((first
      | ((with_reducible apply AP.k_any); first
               | refine AP.S ?_
               | refine AP.E ?_
               | (refine AP.Y ?_; dsimp only) | refine AP.G (fun hg => ?_) (fun hg => ?_)
        )
      
      )
        <;> (try simp only [nx, Nat.reduceAdd, Nat.reduceSub, BEq.rfl]))
      | ((with_reducible apply AP.k_nil); first
          | (refine AP.nil (hQ' _ ?_); clear hQ' Q')
          | refine AP.nil ?_)
      | ((with_reducible apply CP.k_reg); refine cp_regG fun Q' hQ' => ?_)
        | (with_reducible apply CP.k_reg1; refine cp_region ?_)
        | ((with_reducible apply CP.k_cond); first | refine cp_condT rfl ?_ | refine cp_condF rfl ?_ | refine cp_cond rfl (fun hc => ?_) (fun hc => ?_))
        | refine CP.go ?_
        | (simp only [List.append_eq, List.cons_append, List.nil_append]))
    all_goals first
      | (refine RetQ.B [] ?_; (try dsimp only [resV, List.getD_cons_succ, List.getD_cons_zero]); (exact ⟨rfl, rfl⟩))
      | (exfalso; simp [hw0] at *; omega)
  · have e0 : loadS b p n = (beN ((b.drop p.toNat).take n), true) := by simp [loadS, hs]
    rw [e0]
    obtain ⟨q, rfl⟩ : ∃ q : Nat, p = q := ⟨p.toNat, by omega⟩
    have g1 : (q : Int) ≤ IntKind.i64.wrap ((q : Int) + n) := by rw [hw1]; omega
    have g2 : IntKind.i64.wrap ((q : Int) + n) ≤ ((b.map eB).length : Int) := by rw [hw1]; simp; omega
    have e2 : (b.drop q).take (((q : Int) + n).toNat - q) = (b.drop q).take n := by rw [show ((q : Int) + n).toNat - q = n by omega]
    have hl : ((b.drop q).take n).length = n := by (rw [List.length_take, List.length_drop]; omega)
    refine AC.N Try.func83 Try.ntmps83 ?_
    intro X hρ hmks
    simp only [nx, Nat.reduceAdd, Nat.reduceSub, BEq.rfl]
    repeat' (first
      | ((first
      | ((with_reducible apply AP.k_any); first
               | refine AP.S ?_
               | refine AP.E ?_
               | (refine AP.Y ?_; dsimp only) | refine AP.G (fun hg => ?_) (fun hg => ?_)
        )
      
      )
        <;> (try simp only [nx, Nat.reduceAdd, Nat.reduceSub, BEq.rfl]))
      | ((with_reducible apply AP.k_nil); first
          | (refine AP.nil (hQ' _ ?_); clear hQ' Q')
          | refine AP.nil ?_)
      | ((with_reducible apply CP.k_reg); refine cp_regG fun Q' hQ' => ?_)
        | (with_reducible apply CP.k_reg1; refine cp_region ?_)
        | ((with_reducible apply CP.k_cond); first | refine cp_condT rfl ?_ | refine cp_condF rfl ?_ | refine cp_cond rfl (fun hc => ?_) (fun hc => ?_))
        | refine CP.go ?_
        | (simp only [List.append_eq, List.cons_append, List.nil_append]))
    all_goals first
      | (exfalso; simp [hw0] at *; omega)
      | skip
    · simp only [hw1, Int.toNat_natCast, e2]
      generalize (b.drop q).take n = c at hl e2 ⊢
      refine cp_loopS [8, 10, 28, 29, 30, 31, 32, 33, 34, 35, 36, 37] (fun k : Nat => c.length - k) (fun k => k ≤ c.length) (fun k => [(28, I k), (8, .sc (.int .u64 (beN (c.take k) : Int)))]) (fun _ => []) 0 (Nat.zero_le _) (by exact Gh.W) ?_
      rintro k hk
      simp only [setT, deT, setB, List.set_cons_succ, List.set_cons_zero]
      by_cases hlt : k < c.length
      · have hw : IntKind.i64.wrap ((k : Int) + 1) = ((k + 1 : Nat) : Int) := wrap_i64 (by omega) (by omega)
        have hb1 := beN_lt (c.take k)
        have hb2 : 256 ^ (c.take k).length ≤ 256 ^ 7 := Nat.pow_le_pow_right (by omega) (by simp; omega)
        have ho := or8' (beN (c.take k)) c[k].toNat (by omega) c[k].toNat_lt
        have hsn : beN (c.take (k + 1)) = 256 * beN (c.take k) + c[k].toNat := by rw [List.take_succ_eq_append_getElem hlt, beN_snoc]
        repeat' (first
          | ((first
          | ((with_reducible apply AP.k_any); first
                   | refine AP.S ?_
                   | refine AP.E ?_
                   | (refine AP.Y ?_; dsimp only) | refine AP.G (fun hg => ?_) (fun hg => ?_)
            )
          
          )
            <;> (try simp only [nx, Nat.reduceAdd, Nat.reduceSub, BEq.rfl]))
          | ((with_reducible apply AP.k_nil); first
              | (refine AP.nil (hQ' _ ?_); clear hQ' Q')
              | refine AP.nil ?_)
          | ((with_reducible apply CP.k_reg); refine cp_regG fun Q' hQ' => ?_)
            | (with_reducible apply CP.k_reg1; refine cp_region ?_)
            | ((with_reducible apply CP.k_cond); first | refine cp_condT rfl ?_ | refine cp_condF rfl ?_ | refine cp_cond rfl (fun hc => ?_) (fun hc => ?_))
            | refine CP.go ?_
            | (simp only [List.append_eq, List.cons_append, List.nil_append]))
        · simp only [hw]
          refine ⟨k + 1, by omega, by omega, ?_⟩
          rw [hsn, ← ho]
          exact Gh.W
        · exfalso; simp at *; omega
      · obtain rfl : k = c.length := by omega
        rw [List.take_length]
        repeat' (first
          | ((first
          | ((with_reducible apply AP.k_any); first
                   | refine AP.S ?_
                   | refine AP.E ?_
                   | (refine AP.Y ?_; dsimp only) | refine AP.G (fun hg => ?_) (fun hg => ?_)
            )
          
          )
            <;> (try simp only [nx, Nat.reduceAdd, Nat.reduceSub, BEq.rfl]))
          | ((with_reducible apply AP.k_nil); first
              | (refine AP.nil (hQ' _ ?_); clear hQ' Q')
              | refine AP.nil ?_)
          | ((with_reducible apply CP.k_reg); refine cp_regG fun Q' hQ' => ?_)
            | (with_reducible apply CP.k_reg1; refine cp_region ?_)
            | ((with_reducible apply CP.k_cond); first | refine cp_condT rfl ?_ | refine cp_condF rfl ?_ | refine cp_cond rfl (fun hc => ?_) (fun hc => ?_))
            | refine CP.go ?_
            | (simp only [List.append_eq, List.cons_append, List.nil_append]))
        all_goals first
          | (exfalso; simp at *; done)
          | (exfalso; simp at *; omega)
          | (refine RetQ.B [] ?_; (try dsimp only [resV, List.getD_cons_succ, List.getD_cons_zero]); (exact ⟨rfl, rfl⟩))
end Go.Proofs.Ytnjfchigdpifmaa

namespace Go.Proofs.Ytnjfchigdpifmaa
set_option linter.unusedVariables false
set_option linter.unusedSimpArgs false
set_option maxHeartbeats 8000000
open Go.RowKit
set_option maxRecDepth 100000
abbrev tRd : TypeId := 87
abbrev rB (st : Int × List UInt8) : Bx := .c tRd [B true, bs none st.2, I st.1]
def newR (b : List UInt8) : Int × List UInt8 := if 65536 < b.length then (3, []) else (0, b)
theorem rnew_ac (b : List UInt8) (hb : b.length ≤ 100000000) : AC Try.prog 28 [bs none b] [] (fun v bs' => v = .bp 0 0 0 ∧ bs' = [rB (newR b)]) := by
  by_cases h : 65536 < b.length
  · have e : newR b = (3, []) := by simp [newR, h]
    rw [e]
    refine AC.N Try.func28 Try.ntmps28 ?_
    intro X hρ hmks
    simp only [nx, Nat.reduceAdd, Nat.reduceSub, BEq.rfl]
    repeat' (first
      | ((first
      | ((with_reducible apply AP.k_any); first
               | refine AP.S ?_
        )
      
      )
        <;> (try simp only [nx, Nat.reduceAdd, Nat.reduceSub, BEq.rfl]))
      | ((with_reducible apply AP.k_nil); first
          | (refine AP.nil (hQ' _ ?_); clear hQ' Q')
          | refine AP.nil ?_)
      | ((with_reducible apply CP.k_reg); refine cp_regG fun Q' hQ' => ?_)
        | (with_reducible apply CP.k_reg1; refine cp_region ?_)
        | ((with_reducible apply CP.k_cond); first | refine cp_condT rfl ?_ | refine cp_condF rfl ?_ | refine cp_cond rfl (fun hc => ?_) (fun hc => ?_))
        | refine CP.go ?_
        | (simp only [List.append_eq, List.cons_append, List.nil_append]))
    · (exact RetQ.A [(0, 1)] (by exact ⟨rfl, rfl⟩))
    · exfalso; simp at *; omega
  · have e : newR b = (0, b) := by simp [newR, h]
    have hcat := (wcat_ac [b] (by simp) (by simp; omega)).ro (r2 := bs none b) (by simp [AV.ro, ro_B])
    rw [e]
    refine AC.N Try.func28 Try.ntmps28 ?_
    intro X hρ hmks
    simp only [nx, Nat.reduceAdd, Nat.reduceSub, BEq.rfl]
    repeat' (first
      | ((first
      | ((with_reducible apply AP.k_any); first
               | refine AP.Z ?_
        )
      | ((with_reducible apply AP.k_any); refine AP.C (hcat) ?_)
        | ((with_reducible apply AP.k_any); refine AP.gh (gh_fz (b := 0) (u := 1) rfl rfl (by (repeat' (first | exact FzC.nil | apply FzC.cons | exact FzV.hd | apply FzV.ag | exact FzV.same))) (by (repeat' (first | exact FzB.nil | apply FzB.c | apply FzB.same | exact FzC.nil | apply FzC.cons | exact FzV.hd | apply FzV.ag | exact FzV.same)))) ?_; first | simp only [roE, roC, AV.ro, ro_B, ro_M, ro_E] | simp only [roE, roC, AV.ro, ro_B])
      )
        <;> (try simp only [nx, Nat.reduceAdd, Nat.reduceSub, BEq.rfl]))
      | ((with_reducible apply AP.k_nil); first
          | (refine AP.nil (hQ' _ ?_); clear hQ' Q')
          | refine AP.nil ?_)
      | ((with_reducible apply CP.k_reg); refine cp_regG fun Q' hQ' => ?_)
        | (with_reducible apply CP.k_reg1; refine cp_region ?_)
        | ((with_reducible apply CP.k_cond); first | refine cp_condT rfl ?_ | refine cp_condF rfl ?_ | refine cp_cond rfl (fun hc => ?_) (fun hc => ?_))
        | refine CP.go ?_
        | (simp only [List.append_eq, List.cons_append, List.nil_append]))
    · exfalso; simp at *; omega
    · (exact RetQ.A [(0, 2)] (by exact ⟨rfl, rfl⟩))
theorem fine_ac (st : Int × List UInt8) : AC Try.prog 81 [.bp 0 0 0] [rB st] (fun v bs' => v = B (st.1 == 0) ∧ bs' = [rB st]) := by
  refine AC.N Try.func81 Try.ntmps81 ?_
  intro X hρ hmks
  simp only [nx, Nat.reduceAdd, Nat.reduceSub, BEq.rfl]
  repeat' (first
    | ((first
    | ((with_reducible apply AP.k_any); first
             | refine AP.S ?_
             | (refine AP.Y ?_; dsimp only) | refine AP.G (fun hg => ?_) (fun hg => ?_)
             | (refine AP.V (fun c hnil => ?_); simp only [nz])
      )
    
    )
      <;> (try simp only [nx, Nat.reduceAdd, Nat.reduceSub, BEq.rfl]))
    | ((with_reducible apply AP.k_nil); first
        | (refine AP.nil (hQ' _ ?_); clear hQ' Q')
        | refine AP.nil ?_)
    | ((with_reducible apply CP.k_reg); refine cp_regG fun Q' hQ' => ?_)
      | (with_reducible apply CP.k_reg1; refine cp_region ?_)
      | ((with_reducible apply CP.k_cond); first | refine cp_condT rfl ?_ | refine cp_condF rfl ?_ | refine cp_cond rfl (fun hc => ?_) (fun hc => ?_))
      | refine CP.go ?_
      | (simp only [List.append_eq, List.cons_append, List.nil_append]))
  (exact RetQ.A [(0, 0)] (by exact ⟨rfl, rfl⟩))
theorem rbad_ac (st : Int × List UInt8) : AC Try.prog 82 [.bp 0 0 0] [rB st] (fun v bs' => v = .tu [] ∧ bs' = [rB (40, [])]) := by
  refine AC.N Try.func82 Try.ntmps82 ?_
  intro X hρ hmks
  simp only [nx, Nat.reduceAdd, Nat.reduceSub, BEq.rfl]
  repeat' (first
    | ((first
    | ((with_reducible apply AP.k_any); first
             | refine AP.S ?_
      )
    
    )
      <;> (try simp only [nx, Nat.reduceAdd, Nat.reduceSub, BEq.rfl]))
    | ((with_reducible apply AP.k_nil); first
        | (refine AP.nil (hQ' _ ?_); clear hQ' Q')
        | refine AP.nil ?_)
    | ((with_reducible apply CP.k_reg); refine cp_regG fun Q' hQ' => ?_)
      | (with_reducible apply CP.k_reg1; refine cp_region ?_)
      | ((with_reducible apply CP.k_cond); first | refine cp_condT rfl ?_ | refine cp_condF rfl ?_ | refine cp_cond rfl (fun hc => ?_) (fun hc => ?_))
      | refine CP.go ?_
      | (simp only [List.append_eq, List.cons_append, List.nil_append]))
  (exact RetQ.A [(0, 0)] (by exact ⟨rfl, rfl⟩))
def takeS {α : Type} (z : α) (f : List UInt8 → α × Bool) (n : Int) (st : Int × List UInt8) : α × (Int × List UInt8) :=
  if st.1 ≠ 0 then (z, st) else if n < 0 ∨ (st.2.length : Int) < n then (z, (40, []))
  else if (f (st.2.take n.toNat)).2 = true then ((f (st.2.take n.toNat)).1, (0, st.2.drop n.toNat)) else (z, (40, []))
theorem take3_ac  (f : Nat) (g : List UInt8 → Int × Bool) (n : Int) (st : Int × List UInt8) (hst : st.2.length ≤ 100000000) (hf : ∀ b : List UInt8, b.length = n.toNat → b.length ≤ st.2.length → AC Try.prog f [bs none b] [] (fun v bs' => v = .tu [I (g b).1, B (g b).2] ∧ bs' = [])) :
    AC Try.prog 55 [.bp 0 0 0, I n, .fn f []] [rB st] (fun v bs' => v = I (takeS (0 : Int) g n st).1 ∧ bs' = [rB (takeS (0 : Int) g n st).2]) := by
  obtain ⟨e, b⟩ := st
  by_cases he : e = 0
  · subst he
    by_cases hn : n < 0 ∨ (b.length : Int) < n
    · have ht : takeS (0 : Int) g n (0, b) = ((0 : Int), (40, [])) := by simp only [takeS, hn]; simp
      rw [ht]
      refine AC.N Try.func55 Try.ntmps55 ?_
      intro X hρ hmks
      simp only [nx, Nat.reduceAdd, Nat.reduceSub, BEq.rfl]
      repeat' (first
        | ((first
        | ((with_reducible apply AP.k_any); first
                 | refine AP.S ?_
                 | (refine AP.Y ?_; dsimp only) | refine AP.G (fun hg => ?_) (fun hg => ?_)
          )
        | ((with_reducible apply AP.k_any); refine AP.CB [(0, 0)] 0 (fine_ac (0, b)) ?_)
            | ((with_reducible apply AP.k_any); refine AP.CB [(0, 0)] 0 (rbad_ac (0, b)) ?_)
        )
          <;> (try simp only [nx, Nat.reduceAdd, Nat.reduceSub, BEq.rfl]))
        | ((with_reducible apply AP.k_nil); first
            | (refine AP.nil (hQ' _ ?_); clear hQ' Q')
            | refine AP.nil ?_)
        | ((with_reducible apply CP.k_reg); refine cp_regG fun Q' hQ' => ?_)
          | (with_reducible apply CP.k_reg1; refine cp_region ?_)
          | ((with_reducible apply CP.k_cond); first | refine cp_condT rfl ?_ | refine cp_condF rfl ?_ | refine cp_cond rfl (fun hc => ?_) (fun hc => ?_))
          | refine CP.go ?_
          | (simp only [List.append_eq, List.cons_append, List.nil_append]))
      all_goals first
        | (exfalso; simp at *; done)
        | (exfalso; simp at *; omega)
        | (exact RetQ.A [(0, 0)] (by exact ⟨rfl, rfl⟩))
    · have hl : (b.take n.toNat).length = n.toNat := by simp; omega
      have hf' := hf (b.take n.toNat) hl (by rw [List.length_take]; exact Nat.min_le_right _ _)
      have htk : List.take (b.length - n.toNat) (List.drop n.toNat b) = List.drop n.toNat b := List.take_of_length_le (by simp)
      have hn0 : 0 ≤ n := by omega
      have hn1 : n ≤ (b.length : Int) := by omega
      have hm : n ≤ ((b.map eB).length : Int) := by simp; omega
      have ht : takeS (0 : Int) g n (0, b) = if (g (b.take n.toNat)).2 = true then ((g (b.take n.toNat)).1, (0, b.drop n.toNat)) else ((0 : Int), (40, [])) := by simp only [takeS, hn]; simp
      rw [ht]
      cases hg2 : (g (b.take n.toNat)).2 with
      | true =>
        rw [hg2] at hf'
        simp only [if_true]
        refine AC.N Try.func55 Try.ntmps55 ?_
        intro X hρ hmks
        simp only [nx, Nat.reduceAdd, Nat.reduceSub, BEq.rfl]
        repeat' (first
          | ((first
          | ((with_reducible apply AP.k_any); first
                   | refine AP.S ?_
                   | (refine AP.Y ?_; dsimp only) | refine AP.G (fun hg => ?_) (fun hg => ?_)
            )
          | ((with_reducible apply AP.k_any); refine AP.CB [(0, 0)] 0 (fine_ac (0, b)) ?_)
                | ((with_reducible apply AP.k_any); refine ap_callX rfl rfl (fn := f) rfl hf' (by (repeat' (first | exact PasC.nil | apply PasC.nil | apply PasC.cons | apply PasV.leaf rfl | apply PasV.nl | apply PasV.bp rfl | apply PasV.lend rfl rfl rfl | apply PasV.lend rfl rfl (ro_B _) | apply PasV.lend rfl rfl (ro_M _) | apply PasV.lend rfl rfl (ro_E _ _) | apply PasV.lend rfl rfl (ro_I _) | apply PasV.lend rfl rfl (by (simp only [rn, List.map_cons, List.map_nil]; first | done | rfl)) | apply PasV.mv rfl | apply PasV.ag | apply PasV.fn | exact PasV.fs | apply PasV.any))) rfl rfl ?_)
                | ((with_reducible apply AP.k_any); refine AP.CB [(0, 0)] 0 (rbad_ac (0, b)) ?_)
          )
            <;> (try simp only [nx, Nat.reduceAdd, Nat.reduceSub, BEq.rfl]))
          | ((with_reducible apply AP.k_nil); first
              | (refine AP.nil (hQ' _ ?_); clear hQ' Q')
              | refine AP.nil ?_)
          | ((with_reducible apply CP.k_reg); refine cp_regG fun Q' hQ' => ?_)
            | (with_reducible apply CP.k_reg1; refine cp_region ?_)
            | ((with_reducible apply CP.k_cond); first | refine cp_condT rfl ?_ | refine cp_condF rfl ?_ | refine cp_cond rfl (fun hc => ?_) (fun hc => ?_))
            | refine CP.go ?_
            | (simp only [List.append_eq, List.cons_append, List.nil_append]))
        all_goals first
          | (exfalso; simp at *; done)
          | (exfalso; simp at *; omega)
          | (simp only [htk]
             (exact RetQ.A [(0, 0)] (by exact ⟨rfl, rfl⟩)))
      | false =>
        rw [hg2] at hf'
        simp only [Bool.false_eq_true, if_false]
        refine AC.N Try.func55 Try.ntmps55 ?_
        intro X hρ hmks
        simp only [nx, Nat.reduceAdd, Nat.reduceSub, BEq.rfl]
        repeat' (first
          | ((first
          | ((with_reducible apply AP.k_any); first
                   | refine AP.S ?_
                   | (refine AP.Y ?_; dsimp only) | refine AP.G (fun hg => ?_) (fun hg => ?_)
            )
          | ((with_reducible apply AP.k_any); refine AP.CB [(0, 0)] 0 (fine_ac (0, b)) ?_)
                | ((with_reducible apply AP.k_any); refine ap_callX rfl rfl (fn := f) rfl hf' (by (repeat' (first | exact PasC.nil | apply PasC.nil | apply PasC.cons | apply PasV.leaf rfl | apply PasV.nl | apply PasV.bp rfl | apply PasV.lend rfl rfl rfl | apply PasV.lend rfl rfl (ro_B _) | apply PasV.lend rfl rfl (ro_M _) | apply PasV.lend rfl rfl (ro_E _ _) | apply PasV.lend rfl rfl (ro_I _) | apply PasV.lend rfl rfl (by (simp only [rn, List.map_cons, List.map_nil]; first | done | rfl)) | apply PasV.mv rfl | apply PasV.ag | apply PasV.fn | exact PasV.fs | apply PasV.any))) rfl rfl ?_)
                | ((with_reducible apply AP.k_any); refine AP.CB [(0, 0)] 0 (rbad_ac (0, b)) ?_)
          )
            <;> (try simp only [nx, Nat.reduceAdd, Nat.reduceSub, BEq.rfl]))
          | ((with_reducible apply AP.k_nil); first
              | (refine AP.nil (hQ' _ ?_); clear hQ' Q')
              | refine AP.nil ?_)
          | ((with_reducible apply CP.k_reg); refine cp_regG fun Q' hQ' => ?_)
            | (with_reducible apply CP.k_reg1; refine cp_region ?_)
            | ((with_reducible apply CP.k_cond); first | refine cp_condT rfl ?_ | refine cp_condF rfl ?_ | refine cp_cond rfl (fun hc => ?_) (fun hc => ?_))
            | refine CP.go ?_
            | (simp only [List.append_eq, List.cons_append, List.nil_append]))
        all_goals first
          | (exfalso; simp at *; done)
          | (exfalso; simp at *; omega)
          | (exact RetQ.A [(0, 0)] (by exact ⟨rfl, rfl⟩))
  · have ht : takeS (0 : Int) g n (e, b) = ((0 : Int), (e, b)) := by simp [takeS, he]
    have hb : ((e : Int) == 0) = false := by simp [he]
    rw [ht]
    refine AC.N Try.func55 Try.ntmps55 ?_
    intro X hρ hmks
    simp only [nx, Nat.reduceAdd, Nat.reduceSub, BEq.rfl]
    repeat' (first
      | ((first
      | ((with_reducible apply AP.k_any); first
               | refine AP.S ?_
               | (refine AP.Y ?_; dsimp only) | refine AP.G (fun hg => ?_) (fun hg => ?_)
        )
      | ((with_reducible apply AP.k_any); refine AP.CB [(0, 0)] 0 (fine_ac (e, b)) ?_)
      )
        <;> (try simp only [nx, Nat.reduceAdd, Nat.reduceSub, BEq.rfl]))
      | ((with_reducible apply AP.k_nil); first
          | (refine AP.nil (hQ' _ ?_); clear hQ' Q')
          | refine AP.nil ?_)
      | ((with_reducible apply CP.k_reg); refine cp_regG fun Q' hQ' => ?_)
        | (with_reducible apply CP.k_reg1; refine cp_region ?_)
        | ((with_reducible apply CP.k_cond); first | refine cp_condT rfl ?_ | refine cp_condF rfl ?_ | refine cp_cond rfl (fun hc => ?_) (fun hc => ?_))
        | refine CP.go ?_
        | (simp only [List.append_eq, List.cons_append, List.nil_append]))
    all_goals first
      | (exfalso; simp at *; done)
      | (exfalso; simp at *; omega)
      | (exact RetQ.A [(0, 0)] (by exact ⟨rfl, rfl⟩))
theorem take4_ac  (f : Nat) (g : List UInt8 → List UInt8 × Bool) (n : Int) (st : Int × List UInt8) (hst : st.2.length ≤ 100000000) (hf : ∀ b : List UInt8, b.length = n.toNat → b.length ≤ st.2.length → AC Try.prog f [bs none b] [] (fun v bs' => v = .tu [bs none (g b).1, B (g b).2] ∧ bs' = [])) :
    AC Try.prog 60 [.bp 0 0 0, I n, .fn f []] [rB st] (fun v bs' => v = bs none (takeS ([] : List UInt8) g n st).1 ∧ bs' = [rB (takeS ([] : List UInt8) g n st).2]) := by
  obtain ⟨e, b⟩ := st
  by_cases he : e = 0
  · subst he
    by_cases hn : n < 0 ∨ (b.length : Int) < n
    · have ht : takeS ([] : List UInt8) g n (0, b) = (([] : List UInt8), (40, [])) := by simp only [takeS, hn]; simp
      rw [ht]
      refine AC.N Try.func60 Try.ntmps60 ?_
      intro X hρ hmks
      simp only [nx, Nat.reduceAdd, Nat.reduceSub, BEq.rfl]
      repeat' (first
        | ((first
        | ((with_reducible apply AP.k_any); first
                 | refine AP.S ?_
                 | (refine AP.Y ?_; dsimp only) | refine AP.G (fun hg => ?_) (fun hg => ?_)
          )
        | ((with_reducible apply AP.k_any); refine AP.CB [(0, 0)] 0 (fine_ac (0, b)) ?_)
            | ((with_reducible apply AP.k_any); refine AP.CB [(0, 0)] 0 (rbad_ac (0, b)) ?_)
        )
          <;> (try simp only [nx, Nat.reduceAdd, Nat.reduceSub, BEq.rfl]))
        | ((with_reducible apply AP.k_nil); first
            | (refine AP.nil (hQ' _ ?_); clear hQ' Q')
            | refine AP.nil ?_)
        | ((with_reducible apply CP.k_reg); refine cp_regG fun Q' hQ' => ?_)
          | (with_reducible apply CP.k_reg1; refine cp_region ?_)
          | ((with_reducible apply CP.k_cond); first | refine cp_condT rfl ?_ | refine cp_condF rfl ?_ | refine cp_cond rfl (fun hc => ?_) (fun hc => ?_))
          | refine CP.go ?_
          | (simp only [List.append_eq, List.cons_append, List.nil_append]))
      all_goals first
        | (exfalso; simp at *; done)
        | (exfalso; simp at *; omega)
        | (exact RetQ.A [(0, 0)] (by exact ⟨rfl, rfl⟩))
    · have hl : (b.take n.toNat).length = n.toNat := by simp; omega
      have hf' := hf (b.take n.toNat) hl (by rw [List.length_take]; exact Nat.min_le_right _ _)
      have htk : List.take (b.length - n.toNat) (List.drop n.toNat b) = List.drop n.toNat b := List.take_of_length_le (by simp)
      have hn0 : 0 ≤ n := by omega
      have hn1 : n ≤ (b.length : Int) := by omega
      have hm : n ≤ ((b.map eB).length : Int) := by simp; omega
      have ht : takeS ([] : List UInt8) g n (0, b) = if (g (b.take n.toNat)).2 = true then ((g (b.take n.toNat)).1, (0, b.drop n.toNat)) else (([] : List UInt8), (40, [])) := by simp only [takeS, hn]; simp
      rw [ht]
      cases hg2 : (g (b.take n.toNat)).2 with
      | true =>
        rw [hg2] at hf'
        simp only [if_true]
        refine AC.N Try.func60 Try.ntmps60 ?_
        intro X hρ hmks
        simp only [nx, Nat.reduceAdd, Nat.reduceSub, BEq.rfl]
        repeat' (first
          | ((first
          | ((with_reducible apply AP.k_any); first
                   | refine AP.S ?_
                   | (refine AP.Y ?_; dsimp only) | refine AP.G (fun hg => ?_) (fun hg => ?_)
            )
          | ((with_reducible apply AP.k_any); refine AP.CB [(0, 0)] 0 (fine_ac (0, b)) ?_)
                | ((with_reducible apply AP.k_any); refine ap_callX rfl rfl (fn := f) rfl hf' (by (repeat' (first | exact PasC.nil | apply PasC.nil | apply PasC.cons | apply PasV.leaf rfl | apply PasV.nl | apply PasV.bp rfl | apply PasV.lend rfl rfl rfl | apply PasV.lend rfl rfl (ro_B _) | apply PasV.lend rfl rfl (ro_M _) | apply PasV.lend rfl rfl (ro_E _ _) | apply PasV.lend rfl rfl (ro_I _) | apply PasV.lend rfl rfl (by (simp only [rn, List.map_cons, List.map_nil]; first | done | rfl)) | apply PasV.mv rfl | apply PasV.ag | apply PasV.fn | exact PasV.fs | apply PasV.any))) rfl rfl ?_)
                | ((with_reducible apply AP.k_any); refine AP.CB [(0, 0)] 0 (rbad_ac (0, b)) ?_)
          )
            <;> (try simp only [nx, Nat.reduceAdd, Nat.reduceSub, BEq.rfl]))
          | ((with_reducible apply AP.k_nil); first
              | (refine AP.nil (hQ' _ ?_); clear hQ' Q')
              | refine AP.nil ?_)
          | ((with_reducible apply CP.k_reg); refine cp_regG fun Q' hQ' => ?_)
            | (with_reducible apply CP.k_reg1; refine cp_region ?_)
            | ((with_reducible apply CP.k_cond); first | refine cp_condT rfl ?_ | refine cp_condF rfl ?_ | refine cp_cond rfl (fun hc => ?_) (fun hc => ?_))
            | refine CP.go ?_
            | (simp only [List.append_eq, List.cons_append, List.nil_append]))
        all_goals first
          | (exfalso; simp at *; done)
          | (exfalso; simp at *; omega)
          | (simp only [htk]
             (exact RetQ.A [(0, 0)] (by exact ⟨rfl, rfl⟩)))
      | false =>
        rw [hg2] at hf'
        simp only [Bool.false_eq_true, if_false]
        refine AC.N Try.func60 Try.ntmps60 ?_
        intro X hρ hmks
        simp only [nx, Nat.reduceAdd, Nat.reduceSub, BEq.rfl]
        repeat' (first
          | ((first
          | ((with_reducible apply AP.k_any); first
                   | refine AP.S ?_
                   | (refine AP.Y ?_; dsimp only) | refine AP.G (fun hg => ?_) (fun hg => ?_)
            )
          | ((with_reducible apply AP.k_any); refine AP.CB [(0, 0)] 0 (fine_ac (0, b)) ?_)
                | ((with_reducible apply AP.k_any); refine ap_callX rfl rfl (fn := f) rfl hf' (by (repeat' (first | exact PasC.nil | apply PasC.nil | apply PasC.cons | apply PasV.leaf rfl | apply PasV.nl | apply PasV.bp rfl | apply PasV.lend rfl rfl rfl | apply PasV.lend rfl rfl (ro_B _) | apply PasV.lend rfl rfl (ro_M _) | apply PasV.lend rfl rfl (ro_E _ _) | apply PasV.lend rfl rfl (ro_I _) | apply PasV.lend rfl rfl (by (simp only [rn, List.map_cons, List.map_nil]; first | done | rfl)) | apply PasV.mv rfl | apply PasV.ag | apply PasV.fn | exact PasV.fs | apply PasV.any))) rfl rfl ?_)
                | ((with_reducible apply AP.k_any); refine AP.CB [(0, 0)] 0 (rbad_ac (0, b)) ?_)
          )
            <;> (try simp only [nx, Nat.reduceAdd, Nat.reduceSub, BEq.rfl]))
          | ((with_reducible apply AP.k_nil); first
              | (refine AP.nil (hQ' _ ?_); clear hQ' Q')
              | refine AP.nil ?_)
          | ((with_reducible apply CP.k_reg); refine cp_regG fun Q' hQ' => ?_)
            | (with_reducible apply CP.k_reg1; refine cp_region ?_)
            | ((with_reducible apply CP.k_cond); first | refine cp_condT rfl ?_ | refine cp_condF rfl ?_ | refine cp_cond rfl (fun hc => ?_) (fun hc => ?_))
            | refine CP.go ?_
            | (simp only [List.append_eq, List.cons_append, List.nil_append]))
        all_goals first
          | (exfalso; simp at *; done)
          | (exfalso; simp at *; omega)
          | (exact RetQ.A [(0, 0)] (by exact ⟨rfl, rfl⟩))
  · have ht : takeS ([] : List UInt8) g n (e, b) = (([] : List UInt8), (e, b)) := by simp [takeS, he]
    have hb : ((e : Int) == 0) = false := by simp [he]
    rw [ht]
    refine AC.N Try.func60 Try.ntmps60 ?_
    intro X hρ hmks
    simp only [nx, Nat.reduceAdd, Nat.reduceSub, BEq.rfl]
    repeat' (first
      | ((first
      | ((with_reducible apply AP.k_any); first
               | refine AP.S ?_
               | (refine AP.Y ?_; dsimp only) | refine AP.G (fun hg => ?_) (fun hg => ?_)
        )
      | ((with_reducible apply AP.k_any); refine AP.CB [(0, 0)] 0 (fine_ac (e, b)) ?_)
      )
        <;> (try simp only [nx, Nat.reduceAdd, Nat.reduceSub, BEq.rfl]))
      | ((with_reducible apply AP.k_nil); first
          | (refine AP.nil (hQ' _ ?_); clear hQ' Q')
          | refine AP.nil ?_)
      | ((with_reducible apply CP.k_reg); refine cp_regG fun Q' hQ' => ?_)
        | (with_reducible apply CP.k_reg1; refine cp_region ?_)
        | ((with_reducible apply CP.k_cond); first | refine cp_condT rfl ?_ | refine cp_condF rfl ?_ | refine cp_cond rfl (fun hc => ?_) (fun hc => ?_))
        | refine CP.go ?_
        | (simp only [List.append_eq, List.cons_append, List.nil_append]))
    all_goals first
      | (exfalso; simp at *; done)
      | (exfalso; simp at *; omega)
      | (exact RetQ.A [(0, 0)] (by exact ⟨rfl, rfl⟩))
end Go.Proofs.Ytnjfchigdpifmaa

namespace Go.Proofs.Ytnjfchigdpifmaa
set_option linter.unusedVariables false
set_option linter.unusedSimpArgs false
set_option maxHeartbeats 8000000
open Go.RowKit
set_option maxRecDepth 100000
theorem load64_ac (b : List UInt8) (hb : b.length ≤ 100000000) : AC Try.prog 57 [bs none b, I 0] [] (fun v bs' => v = .tu [.sc (.int .u64 ((loadS b 0 8).1 : Int)), B (loadS b 0 8).2] ∧ bs' = []) := by
  have h := load_ac b 0 8 (by omega) hb (by omega) (by omega)
  refine AC.N Try.func57 Try.ntmps57 ?_
  intro X hρ hmks
  simp only [nx, Nat.reduceAdd, Nat.reduceSub, BEq.rfl]
  repeat' (first
    | ((first
    | ((with_reducible apply AP.k_any); first
             | refine AP.S ?_
      )
    | ((with_reducible apply AP.k_any); refine AP.C (h) ?_)
    )
      <;> (try simp only [nx, Nat.reduceAdd, Nat.reduceSub, BEq.rfl]))
    | ((with_reducible apply AP.k_nil); first
        | (refine AP.nil (hQ' _ ?_); clear hQ' Q')
        | refine AP.nil ?_)
    | ((with_reducible apply CP.k_reg); refine cp_regG fun Q' hQ' => ?_)
      | (with_reducible apply CP.k_reg1; refine cp_region ?_)
      | ((with_reducible apply CP.k_cond); first | refine cp_condT rfl ?_ | refine cp_condF rfl ?_ | refine cp_cond rfl (fun hc => ?_) (fun hc => ?_))
      | refine CP.go ?_
      | (simp only [List.append_eq, List.cons_append, List.nil_append]))
  (refine RetQ.B [] ?_; (try dsimp only [resV, List.getD_cons_succ, List.getD_cons_zero]); (exact ⟨rfl, rfl⟩))
theorem ldw32_ac (b : List UInt8) (hb : b.length ≤ 100000000) : AC Try.prog 59 [bs none b, I 0] [] (fun v bs' => v = .tu [.sc (.int .u32 ((loadS b 0 4).1 : Int)), B (loadS b 0 4).2] ∧ bs' = []) := by
  have h := load_ac b 0 4 (by omega) hb (by omega) (by omega)
  have hw : IntKind.u32.wrap ((loadS b 0 4).1 : Int) = ((loadS b 0 4).1 : Int) := by
    have h1 : (loadS b 0 4).1 < 4294967296 := by
      unfold loadS
      split
      · simp
      · have := beN_lt ((b.drop (0 : Int).toNat).take 4)
        have h2 : 256 ^ ((b.drop (0 : Int).toNat).take 4).length ≤ 256 ^ 4 := Nat.pow_le_pow_right (by omega) (by simp; omega)
        simp at this h2 ⊢
        omega
    simp [IntKind.wrap, IntKind.bits, IntKind.signed]; omega
  refine AC.N Try.func59 Try.ntmps59 ?_
  intro X hρ hmks
  simp only [nx, Nat.reduceAdd, Nat.reduceSub, BEq.rfl]
  repeat' (first
    | ((first
    | ((with_reducible apply AP.k_any); first
             | refine AP.S ?_
      )
    | ((with_reducible apply AP.k_any); refine AP.C (h) ?_)
    )
      <;> (try simp only [nx, Nat.reduceAdd, Nat.reduceSub, BEq.rfl]))
    | ((with_reducible apply AP.k_nil); first
        | (refine AP.nil (hQ' _ ?_); clear hQ' Q')
        | refine AP.nil ?_)
    | ((with_reducible apply CP.k_reg); refine cp_regG fun Q' hQ' => ?_)
      | (with_reducible apply CP.k_reg1; refine cp_region ?_)
      | ((with_reducible apply CP.k_cond); first | refine cp_condT rfl ?_ | refine cp_condF rfl ?_ | refine cp_cond rfl (fun hc => ?_) (fun hc => ?_))
      | refine CP.go ?_
      | (simp only [List.append_eq, List.cons_append, List.nil_append]))
  simp only [hw]
  (refine RetQ.B [] ?_; (try dsimp only [resV, List.getD_cons_succ, List.getD_cons_zero]); (exact ⟨rfl, rfl⟩))
theorem loadS_all {b : List UInt8} {n : Nat} (h : b.length = n) : loadS b 0 n = (beN b, true) := by
  have h1 : ¬ ((0 : Int) < 0 ∨ (b.length : Int) - n < 0) := by omega
  simp only [loadS, if_neg h1]
  simp [← h]
def toI (n : Nat) : Int := IntKind.i64.wrap n
def intG (b : List UInt8) : Int × Bool := (toI (beN b), true)
def lenG (b : List UInt8) : Int × Bool := (beN b, decide (beN b ≤ 65536))
def bytesG (b : List UInt8) : List UInt8 × Bool := (b, true)
theorem rint1_ac (b : List UInt8) (h : b.length = 8) : AC Try.prog 56 [bs none b] [] (fun v bs' => v = .tu [I (intG b).1, B (intG b).2] ∧ bs' = []) := by
  have hl := load64_ac b (by omega)
  rw [loadS_all h] at hl
  refine AC.N Try.func56 Try.ntmps56 ?_
  intro X hρ hmks
  simp only [nx, Nat.reduceAdd, Nat.reduceSub, BEq.rfl]
  repeat' (first
    | ((first
    | ((with_reducible apply AP.k_any); first
             | refine AP.S ?_
      )
    | ((with_reducible apply AP.k_any); refine AP.C (hl) ?_)
    )
      <;> (try simp only [nx, Nat.reduceAdd, Nat.reduceSub, BEq.rfl]))
    | ((with_reducible apply AP.k_nil); first
        | (refine AP.nil (hQ' _ ?_); clear hQ' Q')
        | refine AP.nil ?_)
    | ((with_reducible apply CP.k_reg); refine cp_regG fun Q' hQ' => ?_)
      | (with_reducible apply CP.k_reg1; refine cp_region ?_)
      | ((with_reducible apply CP.k_cond); first | refine cp_condT rfl ?_ | refine cp_condF rfl ?_ | refine cp_cond rfl (fun hc => ?_) (fun hc => ?_))
      | refine CP.go ?_
      | (simp only [List.append_eq, List.cons_append, List.nil_append]))
  (refine RetQ.B [] ?_; (try dsimp only [resV, List.getD_cons_succ, List.getD_cons_zero]); (exact ⟨rfl, rfl⟩))
theorem rlen1_ac (b : List UInt8) (h : b.length = 4) : AC Try.prog 58 [bs none b] [] (fun v bs' => v = .tu [I (lenG b).1, B (lenG b).2] ∧ bs' = []) := by
  have hl := ldw32_ac b (by omega)
  rw [loadS_all h] at hl
  have hb := beN_lt b
  rw [h] at hb
  have hw : IntKind.i64.wrap (beN b : Int) = (beN b : Int) := wrap_i64 (by omega) (by omega)
  refine AC.N Try.func58 Try.ntmps58 ?_
  intro X hρ hmks
  simp only [nx, Nat.reduceAdd, Nat.reduceSub, BEq.rfl]
  repeat' (first
    | ((first
    | ((with_reducible apply AP.k_any); first
             | refine AP.S ?_
      )
    | ((with_reducible apply AP.k_any); refine AP.C (hl) ?_)
    )
      <;> (try simp only [nx, Nat.reduceAdd, Nat.reduceSub, BEq.rfl]))
    | ((with_reducible apply AP.k_nil); first
        | (refine AP.nil (hQ' _ ?_); clear hQ' Q')
        | refine AP.nil ?_)
    | ((with_reducible apply CP.k_reg); refine cp_regG fun Q' hQ' => ?_)
      | (with_reducible apply CP.k_reg1; refine cp_region ?_)
      | ((with_reducible apply CP.k_cond); first | refine cp_condT rfl ?_ | refine cp_condF rfl ?_ | refine cp_cond rfl (fun hc => ?_) (fun hc => ?_))
      | refine CP.go ?_
      | (simp only [List.append_eq, List.cons_append, List.nil_append]))
  simp only [hw]
  (refine RetQ.B [] ?_; (try dsimp only [resV, List.getD_cons_succ, List.getD_cons_zero]); ((refine ⟨?_, rfl⟩; simp [lenG]; try omega)))
theorem rbytes1_ac (b : List UInt8) (h : b.length ≤ 100000000) : AC Try.prog 61 [bs none b] [] (fun v bs' => v = .tu [bs none (bytesG b).1, B (bytesG b).2] ∧ bs' = []) := by
  have hcat := (wcat_ac [b] (by simp) (by simp; omega)).ro (r2 := bs none b) (by simp [AV.ro, ro_B])
  refine AC.N Try.func61 Try.ntmps61 ?_
  intro X hρ hmks
  simp only [nx, Nat.reduceAdd, Nat.reduceSub, BEq.rfl]
  repeat' (first
    | ((first
    | ((with_reducible apply AP.k_any); first
             | refine AP.Z ?_
      )
    | ((with_reducible apply AP.k_any); refine AP.C (hcat) ?_)
    | ((with_reducible apply AP.k_any); refine AP.gh (gh_fz (b := 0) (u := 1) rfl rfl (by (repeat' (first | exact FzC.nil | apply FzC.cons | exact FzV.hd | apply FzV.ag | exact FzV.same))) (by (repeat' (first | exact FzB.nil | apply FzB.c | apply FzB.same | exact FzC.nil | apply FzC.cons | exact FzV.hd | apply FzV.ag | exact FzV.same)))) ?_; first | simp only [roE, roC, AV.ro, ro_B, ro_M, ro_E] | simp only [roE, roC, AV.ro, ro_B])
    )
      <;> (try simp only [nx, Nat.reduceAdd, Nat.reduceSub, BEq.rfl]))
    | ((with_reducible apply AP.k_nil); first
        | (refine AP.nil (hQ' _ ?_); clear hQ' Q')
        | refine AP.nil ?_)
    | ((with_reducible apply CP.k_reg); refine cp_regG fun Q' hQ' => ?_)
      | (with_reducible apply CP.k_reg1; refine cp_region ?_)
      | ((with_reducible apply CP.k_cond); first | refine cp_condT rfl ?_ | refine cp_condF rfl ?_ | refine cp_cond rfl (fun hc => ?_) (fun hc => ?_))
      | refine CP.go ?_
      | (simp only [List.append_eq, List.cons_append, List.nil_append]))
  (refine RetQ.B [] ?_; (try dsimp only [resV, List.getD_cons_succ, List.getD_cons_zero]); (exact ⟨rfl, rfl⟩))
theorem takeS_len {α : Type} {z : α} {f : List UInt8 → α × Bool} {n : Int} {st : Int × List UInt8} {k : Nat} (h : st.2.length ≤ k) : (takeS z f n st).2.2.length ≤ k := by
  unfold takeS
  split
  · exact h
  · split
    · simp
    · split
      · simp; omega
      · simp
def intR (st : Int × List UInt8) : Int × (Int × List UInt8) := takeS 0 intG 8 st
def lenR (st : Int × List UInt8) : Int × (Int × List UInt8) := takeS 0 lenG 4 st
def bytesR (st : Int × List UInt8) : List UInt8 × (Int × List UInt8) := takeS [] bytesG (lenR st).1 (lenR st).2
def endR (st : Int × List UInt8) : Int := if st.1 = 0 then (if st.2 = [] then 0 else 40) else st.1
theorem rint_ac (st : Int × List UInt8) (hst : st.2.length ≤ 100000000) : AC Try.prog 29 [.bp 0 0 0] [rB st] (fun v bs' => v = I (intR st).1 ∧ bs' = [rB (intR st).2]) := by
  have h := take3_ac 56 intG 8 st hst (fun b hb _ => rint1_ac b hb)
  refine AC.N Try.func29 Try.ntmps29 ?_
  intro X hρ hmks
  simp only [nx, Nat.reduceAdd, Nat.reduceSub, BEq.rfl]
  repeat' (first
    | ((first
    | ((with_reducible apply AP.k_any); first
             | refine AP.S ?_
      )
    | ((with_reducible apply AP.k_any); refine AP.CB [(0, 0)] 0 (h) ?_)
    )
      <;> (try simp only [nx, Nat.reduceAdd, Nat.reduceSub, BEq.rfl]))
    | ((with_reducible apply AP.k_nil); first
        | (refine AP.nil (hQ' _ ?_); clear hQ' Q')
        | refine AP.nil ?_)
    | ((with_reducible apply CP.k_reg); refine cp_regG fun Q' hQ' => ?_)
      | (with_reducible apply CP.k_reg1; refine cp_region ?_)
      | ((with_reducible apply CP.k_cond); first | refine cp_condT rfl ?_ | refine cp_condF rfl ?_ | refine cp_cond rfl (fun hc => ?_) (fun hc => ?_))
      | refine CP.go ?_
      | (simp only [List.append_eq, List.cons_append, List.nil_append]))
  (exact RetQ.A [(0, 0)] (by exact ⟨rfl, rfl⟩))
theorem rbytes_ac (st : Int × List UInt8) (hst : st.2.length ≤ 100000000) : AC Try.prog 30 [.bp 0 0 0] [rB st] (fun v bs' => v = bs none (bytesR st).1 ∧ bs' = [rB (bytesR st).2]) := by
  have h := take3_ac 58 lenG 4 st hst (fun b hb _ => rlen1_ac b hb)
  have h2 := take4_ac 61 bytesG (lenR st).1 (lenR st).2 (takeS_len hst) (fun b _ hb => rbytes1_ac b (Nat.le_trans hb (takeS_len hst)))
  refine AC.N Try.func30 Try.ntmps30 ?_
  intro X hρ hmks
  simp only [nx, Nat.reduceAdd, Nat.reduceSub, BEq.rfl]
  repeat' (first
    | ((first
    | ((with_reducible apply AP.k_any); first
             | refine AP.S ?_
      )
    | ((with_reducible apply AP.k_any); refine AP.CB [(0, 0)] 0 (h) ?_)
    | ((with_reducible apply AP.k_any); refine AP.CB [(0, 0)] 0 (h2) ?_)
    )
      <;> (try simp only [nx, Nat.reduceAdd, Nat.reduceSub, BEq.rfl]))
    | ((with_reducible apply AP.k_nil); first
        | (refine AP.nil (hQ' _ ?_); clear hQ' Q')
        | refine AP.nil ?_)
    | ((with_reducible apply CP.k_reg); refine cp_regG fun Q' hQ' => ?_)
      | (with_reducible apply CP.k_reg1; refine cp_region ?_)
      | ((with_reducible apply CP.k_cond); first | refine cp_condT rfl ?_ | refine cp_condF rfl ?_ | refine cp_cond rfl (fun hc => ?_) (fun hc => ?_))
      | refine CP.go ?_
      | (simp only [List.append_eq, List.cons_append, List.nil_append]))
  (exact RetQ.A [(0, 0)] (by exact ⟨rfl, rfl⟩))
theorem rerr_ac (st : Int × List UInt8) : AC Try.prog 64 [.bp 0 0 0] [rB st] (fun v bs' => v = I st.1 ∧ bs' = [rB st]) := by
  refine AC.N Try.func64 Try.ntmps64 ?_
  intro X hρ hmks
  simp only [nx, Nat.reduceAdd, Nat.reduceSub, BEq.rfl]
  repeat' (first
    | ((first
    | ((with_reducible apply AP.k_any); first
             | refine AP.S ?_
             | (refine AP.Y ?_; dsimp only) | refine AP.G (fun hg => ?_) (fun hg => ?_)
             | (refine AP.V (fun c hnil => ?_); simp only [nz])
      )
    
    )
      <;> (try simp only [nx, Nat.reduceAdd, Nat.reduceSub, BEq.rfl]))
    | ((with_reducible apply AP.k_nil); first
        | (refine AP.nil (hQ' _ ?_); clear hQ' Q')
        | refine AP.nil ?_)
    | ((with_reducible apply CP.k_reg); refine cp_regG fun Q' hQ' => ?_)
      | (with_reducible apply CP.k_reg1; refine cp_region ?_)
      | ((with_reducible apply CP.k_cond); first | refine cp_condT rfl ?_ | refine cp_condF rfl ?_ | refine cp_cond rfl (fun hc => ?_) (fun hc => ?_))
      | refine CP.go ?_
      | (simp only [List.append_eq, List.cons_append, List.nil_append]))
  (exact RetQ.A [(0, 0)] (by exact ⟨rfl, rfl⟩))
theorem rend_ac (st : Int × List UInt8) : AC Try.prog 32 [.bp 0 0 0] [rB st] (fun v bs' => v = I (endR st) ∧ bs' = [rB st]) := by
  refine AC.N Try.func32 Try.ntmps32 ?_
  intro X hρ hmks
  simp only [nx, Nat.reduceAdd, Nat.reduceSub, BEq.rfl]
  repeat' (first
    | ((first
    | ((with_reducible apply AP.k_any); first
             | refine AP.S ?_
             | (refine AP.V (fun c hnil => ?_); simp only [nz])
      )
    | ((with_reducible apply AP.k_any); refine AP.CB [(0, 0)] 0 (rerr_ac st) ?_)
    )
      <;> (try simp only [nx, Nat.reduceAdd, Nat.reduceSub, BEq.rfl]))
    | ((with_reducible apply AP.k_nil); first
        | (refine AP.nil (hQ' _ ?_); clear hQ' Q')
        | refine AP.nil ?_)
    | ((with_reducible apply CP.k_reg); refine cp_regG fun Q' hQ' => ?_)
      | (with_reducible apply CP.k_reg1; refine cp_region ?_)
      | ((with_reducible apply CP.k_cond); first | refine cp_condT rfl ?_ | refine cp_condF rfl ?_ | refine cp_cond rfl (fun hc => ?_) (fun hc => ?_))
      | refine CP.go ?_
      | (simp only [List.append_eq, List.cons_append, List.nil_append]))
  all_goals (refine RetQ.B [(0, 0)] ?_; (try dsimp only [resV, List.getD_cons_succ, List.getD_cons_zero]); ((refine ⟨?_, rfl⟩; simp at *; simp [endR, *]; try (intro h; simp [h] at *))))
end Go.Proofs.Ytnjfchigdpifmaa

namespace Go.Proofs.Ytnjfchigdpifmaa
set_option linter.unusedVariables false
set_option linter.unusedSimpArgs false
open Go.RowKit
set_option maxRecDepth 100000
structure Member where
  node : Int
  since : Int
  whole : Bool
structure Config where
  epoch : Int
  members : List Member
structure Book where
  cfg : Config
  since : Int
  whole : Bool
  upto : Int
structure Entry where
  pos : Int
  stamp : Int
  client : Int
  id : Int
  body : List UInt8
structure Record where
  kind : UInt8
  book : Book
  drop : Bool
  entry : Entry
structure Life where
  book : Book
  boot : Int
  log : List Entry
abbrev eM (m : Member) : List AV := [I m.node, I m.since, B m.whole]
abbrev eE (o : Option TypeId) (e : Entry) : List AV := [I e.pos, I e.stamp, I e.client, I e.id, bs o e.body]
abbrev es (o q : Option TypeId) (l : List Entry) : AV := .sl o 5 (l.map (eE q))
theorem nr_M {e k : Nat} {l : List Member} : NR (.sl (some e) k (l.map eM)) := NR.leafs fun x a ha => by simp [eM] at ha; rcases ha with rfl | rfl | rfl <;> exact .sc
theorem nr_E {e k q : Nat} {l : List Entry} : NR (.sl (some e) k (l.map (eE (some q)))) := NR.leafs fun x a ha => by
  simp [eE] at ha; rcases ha with rfl | rfl | rfl | rfl | rfl <;> first | exact .sc | exact nr_B
theorem ro_M (l : List Member) : roE (l.map eM) = l.map eM := by rw [roE_map]; rfl
theorem ro_E (q : Option TypeId) (l : List Entry) : roE (l.map (eE q)) = l.map (eE none) := by
  rw [roE_map]
  refine List.map_congr_left fun x _ => ?_
  simp only [eE, roC, AV.ro, ro_B]
end Go.Proofs.Ytnjfchigdpifmaa

namespace Go.Proofs.Ytnjfchigdpifmaa
set_option linter.unusedVariables false
set_option linter.unusedSimpArgs false
set_option maxHeartbeats 8000000
open Go.RowKit
set_option maxRecDepth 100000
abbrev eI (x : Int) : List AV := [I x]
theorem ro_I (l : List Int) : roE (l.map eI) = l.map eI := by rw [roE_map]; rfl
theorem wrap_u64_lt (n : Int) : (IntKind.u64.wrap n).toNat < 18446744073709551616 := by
  simp [IntKind.wrap, IntKind.bits, IntKind.signed]; omega
def numS (l : List Int) : List UInt8 := (l.map intS).flatten
theorem intS_length (n : Int) : (intS n).length = 8 := putS_length _ _
theorem numS_length (l : List Int) : (numS l).length = 8 * l.length := by
  induction l with
  | nil => rfl
  | cons a l ih => simp only [numS, List.map_cons, List.flatten_cons, List.length_append, List.length_cons, intS_length] at ih ⊢; omega
theorem numS_snoc (l : List Int) (x : Int) : numS (l ++ [x]) = numS l ++ intS x := by simp [numS]
end Go.Proofs.Ytnjfchigdpifmaa

namespace Go.Proofs.Ytnjfchigdpifmaa
set_option linter.unusedVariables false
set_option linter.unusedSimpArgs false
open Go.RowKit Go.ChangeShapes Go.WideShapes Go.ChangeAt Go.Deep
set_option maxRecDepth 100000
/-! bulk -/
theorem bulk_one {H : Type} (d : DataW H) : 1 ≤ Rows.uptoBulk d := by
  cases d with
  | lit l => cases l <;> simp [Rows.uptoBulk]
  | _ => simp [Rows.uptoBulk]
theorem bulk_part {H : Type} {d : DataW H} {l : List (DataW H)} (h : d ∈ l) : Rows.uptoBulk d ≤ Rows.uptoBulkAll l := by
  induction l with
  | nil => cases h
  | cons x r ih =>
    simp only [Rows.uptoBulkAll]
    cases List.mem_cons.1 h with
    | inl e => subst e; omega
    | inr e => have := ih e; omega
theorem bulk_length {H : Type} (l : List (DataW H)) : l.length ≤ Rows.uptoBulkAll l := by
  induction l with
  | nil => simp [Rows.uptoBulkAll]
  | cons x r ih => have := bulk_one x; simp only [Rows.uptoBulkAll, List.length_cons]; omega
/-- what reads as data of a type is k cells of my data; N: its bulk -/
def OA (P : Program) (t : TypeId) (k : Nat) {α : Type} (ok : Nat → α → Prop) (e : α → List AV) : Prop :=
  P.cellsOf t = k ∧ (∀ m n d, m ≤ n → ok m d → ok n d) ∧ ∀ {H : Type} {enc : TypeId × Value → H} {w : World} {base : Nat} {fuel : Nat} {cs : List Value} {x : DataW H × List MemPlace},
    DataW.trod enc P w base (fun _ => true) true fuel t cs = some x → ∃ d : α, ok (Rows.uptoBulk x.1) d ∧ (∀ φ κ, RC w φ κ (fun b => b < w.heap.size) (e d) cs Ct.z) ∧ (∀ u ∈ cs, u.oneCell' = true) ∧ (∀ a ∈ e d, a.leaf = true) ∧ cs.length = k
section
variable {P : Program} {t e : TypeId} {α β : Type} {ok : Nat → α → Prop} {k : Nat} {en : α → List AV}
theorem OA.map (h : OA P t k ok en) (f : α → β) {ok' : Nat → β → Prop} {en' : β → List AV} (hm : ∀ m n d, m ≤ n → ok' m d → ok' n d) (h1 : ∀ n a, ok n a → ok' n (f a)) (h2 : ∀ a, en' (f a) = en a) : OA P t k ok' en' :=
  ⟨h.1, hm, fun hx => by
    obtain ⟨d, a, b, c⟩ := h.2.2 hx
    exact ⟨f d, h1 _ _ a, by rw [h2]; exact b, by rw [h2]; exact c⟩⟩
theorem OA.wmap (h : OA P t k ok en) (f : α → β) {ok' : Nat → β → Prop} {en' : β → List AV} (hm : ∀ m n d, m ≤ n → ok' m d → ok' n d) (h1 : ∀ n a, ok n a → ok' n (f a)) (h2 : ∀ n a, ok n a → en' (f a) = en a) : OA P t k ok' en' :=
  ⟨h.1, hm, fun hx => by
    obtain ⟨d, a, b, c⟩ := h.2.2 hx
    exact ⟨f d, h1 _ _ a, by rw [h2 _ _ a]; exact b, by rw [h2 _ _ a]; exact c⟩⟩
theorem RC.one_ {w : World} {φ : Fi} {κ : Ka} {R : Nat → Prop} {a : AV} {v : Value} (h : RV w φ κ R a v Ct.z) : RC w φ κ R [a] [v] Ct.z := .cons (S := Ct.z) (T := Ct.z) h .nil fun _ => rfl
theorem oa_int {κ : IntKind} (ht : P.underlying t = some (.int κ)) (hc : P.cellsOf t = 1) : OA P t 1 (fun _ (n : Int) => (Lit.int κ n).wf = true) (fun n => [.sc (.int κ n)]) :=
  ⟨hc, fun _ _ _ _ h => h, fun h => by
    obtain ⟨n, rfl, _, hw⟩ := DataW.trod_int ht h
    exact ⟨n, hw, fun _ _ => RC.one_ (.sc rfl), fun u hu => by simp at hu; subst hu; rfl, fun a ha => by simp at ha; subst ha; rfl, rfl⟩⟩
theorem RE.of_rows {w : World} {φ : Fi} {κ : Ka} {R : Nat → Prop} {k : Nat} {en : α → List AV} {l : List α} (css : Nat → List Value) (h : ∀ i x, l[i]? = some x → RC w φ κ R (en x) (css i) Ct.z ∧ (∀ u ∈ css i, u.oneCell' = true) ∧ (∀ a ∈ en x, a.leaf = true) ∧ (css i).length = k) :
    RE w φ κ R k (l.map en) ((List.range l.length).flatMap css) Ct.z := by
  induction l generalizing css with
  | nil => exact .nil
  | cons x l ih =>
    have h0 := h 0 x rfl
    have h1 := ih (fun i => css (i + 1)) fun i y hy => h (i + 1) y (by simpa using hy)
    rw [List.length_cons, List.range_succ_eq_map, List.flatMap_cons, List.flatMap_map]
    exact .cons (S := Ct.z) (T := Ct.z) h0.1 h0.2.2.2 ⟨h0.2.1, h0.2.2.1⟩ h1 fun _ => rfl
theorem flat_at {css : Nat → List Value} {k n : Nat} (h : ∀ i, i < n → (css i).length = k) : ∀ {j : Nat} {u : Value}, ((List.range n).flatMap css)[j]? = some u → ∃ i r, i < n ∧ j = i * k + r ∧ (css i)[r]? = some u := by
  induction n generalizing css with
  | zero => intro j u hj; simp at hj
  | succ n ih =>
    intro j u hj
    rw [List.range_succ_eq_map, List.flatMap_cons, List.flatMap_map] at hj
    have h0 := h 0 (by omega)
    by_cases hjk : j < k
    · rw [List.getElem?_append_left (by omega)] at hj
      exact ⟨0, j, by omega, by omega, hj⟩
    · rw [List.getElem?_append_right (by omega)] at hj
      obtain ⟨i, r, hi, hr, hu⟩ := ih (css := fun i => css (i + 1)) (fun i hi => h (i + 1) (by omega)) hj
      refine ⟨i + 1, r, by omega, ?_, hu⟩
      rw [Nat.add_mul]; omega
theorem spot_none {w : World} {a : Addr} {u : Value} (h : w.cell? (a.add 0) = some u) : a.spot = none := by
  obtain ⟨ab, ao, asp⟩ := a
  cases hsp : asp with
  | none => rfl
  | some s =>
    rw [hsp] at h
    simp [Addr.add, World.cell?] at h
    split at h <;> simp at h
theorem oa_slice (hk : 0 < k) (ht : P.underlying t = some (.slice e)) (hc : P.cellsOf t = 1) (hE : OA P e k ok en) : OA P t 1 (fun N (l : List α) => (∀ x ∈ l, ok N x) ∧ l.length < N) (fun l => [.sl none k (l.map en)]) := by
  refine ⟨hc, fun m n d h k => ⟨fun x hx => hE.2.1 _ _ _ h (k.1 x hx), Nat.lt_of_lt_of_le k.2 h⟩, ?_⟩
  intro H enc w base fuel cs x h
  rcases open_slice ht h with ⟨rfl, rfl⟩ | ⟨a, len, cap, m, n, D, Pl, rfl, hb, hl, hm, hmm, hx, hi⟩
  · exact ⟨[], ⟨fun x hx => by simp at hx, by simp [Rows.uptoBulk]⟩, fun _ _ => RC.one_ .ni, fun u hu => by simp at hu; subst hu; rfl, fun a ha => by simp at ha; subst ha; rfl, rfl⟩
  · obtain rfl : m = cap := by simpa using hmm
    clear hmm
    have hbulk : ∀ i, i < len → Rows.uptoBulk (D i) ≤ Rows.uptoBulk x.1 := by
      intro i hi
      rw [hx]
      have := bulk_part (d := D i) (l := (List.range len).map D) (List.mem_map.2 ⟨i, List.mem_range.2 hi, rfl⟩)
      simp only [Rows.uptoBulk]
      omega
    have hlenb : len < Rows.uptoBulk x.1 := by
      rw [hx]
      have := bulk_length ((List.range len).map D)
      simp only [Rows.uptoBulk]
      simp only [List.length_map, List.length_range] at this
      omega
    have hall : ∀ i, i < len → ∃ (d : α) (cs' : List Value), (ok (Rows.uptoBulk x.1) d ∧ (∀ φ κ, RC w φ κ (fun b => b < w.heap.size) (en d) cs' Ct.z) ∧ (∀ u ∈ cs', u.oneCell' = true) ∧ (∀ a ∈ en d, a.leaf = true) ∧ cs'.length = k) ∧ ∀ j u, cs'[j]? = some u → w.cell? ((a.add (i * k)).add j) = some u := by
      intro i hil
      obtain ⟨cs', hcs, htr⟩ := hi i (by omega)
      obtain ⟨d, hd0, hd⟩ := hE.2.2 htr
      rw [hE.1] at hcs
      obtain ⟨_, hlen, hat⟩ := World.cells?_some hcs
      exact ⟨d, cs', ⟨hE.2.1 _ _ _ (hbulk i hil) hd0, hd⟩, fun j u hu => (hat j (by have := (List.getElem?_eq_some_iff.1 hu).1; omega)).trans hu⟩
    have hsp0 : 0 < m → a.spot = none := by
      intro h0
      obtain ⟨cs', hcs, _⟩ := hi 0 h0
      rw [hE.1] at hcs
      obtain ⟨_, hlen, hat⟩ := World.cells?_some hcs
      have hz := hat 0 (by omega)
      rw [List.getElem?_eq_getElem (by omega)] at hz
      have e0 : a.add (0 * k) = a := by simp [Addr.add]
      rw [e0] at hz
      exact spot_none hz
    have hex : ∃ (l : List α) (css : Nat → List Value), l.length = len ∧ ∀ i y, l[i]? = some y → (ok (Rows.uptoBulk x.1) y ∧ (∀ φ κ, RC w φ κ (fun b => b < w.heap.size) (en y) (css i) Ct.z) ∧ (∀ u ∈ css i, u.oneCell' = true) ∧ (∀ a ∈ en y, a.leaf = true) ∧ (css i).length = k) ∧ ∀ j u, (css i)[j]? = some u → w.cell? ((a.add (i * k)).add j) = some u := by
      clear hi hbulk hlenb h hx
      revert hall
      clear hl
      induction len with
      | zero => exact fun _ => ⟨[], fun _ => [], rfl, fun i x h => by simp at h⟩
      | succ q ih =>
        intro hall
        obtain ⟨l, css, hl, hq⟩ := ih (fun i hi => hall i (by omega))
        obtain ⟨d, cs', hd, hcs⟩ := hall q (by omega)
        refine ⟨l ++ [d], fun i => if i = q then cs' else css i, by simp [hl], fun i x hx => ?_⟩
        by_cases hik : i < q
        · rw [List.getElem?_append_left (by omega)] at hx
          simp only [show i ≠ q by omega, if_false]
          exact hq i x hx
        · have hik' : i = q := by have := (List.getElem?_eq_some_iff.1 hx).1; simp at this; omega
          subst hik'
          rw [List.getElem?_append_right (by omega), hl] at hx
          simp at hx
          subst hx
          simp only [if_true]
          exact ⟨hd, hcs⟩
    obtain ⟨l, css, hll, hq⟩ := hex
    refine ⟨l, ⟨fun y hy => ?_, by omega⟩, fun φ κ => ?_, fun u hu => by simp at hu; subst hu; rfl, fun a ha => by simp at ha; subst ha; rfl, rfl⟩
    · obtain ⟨i, hi, rfl⟩ := List.mem_iff_getElem.1 hy
      exact (hq i _ (List.getElem?_eq_getElem hi)).1.1
    · refine RC.one_ ?_
      subst hll
      by_cases h0 : m = 0
      · subst h0
        obtain rfl : l = [] := List.eq_nil_of_length_eq_zero (by omega)
        exact .ne
      · obtain ⟨ab, ao, asp⟩ := a
        have hspn := hsp0 (by omega)
        simp only at hspn
        subst hspn
        have hflat : ∀ j u, ((List.range l.length).flatMap css)[j]? = some u → w.cell? ⟨ab, ao + j, none⟩ = some u := by
          intro j u hj
          obtain ⟨i, r, hi, rfl, hu⟩ := flat_at (k := k) (fun i hi => (hq i _ (List.getElem?_eq_getElem hi)).1.2.2.2.2) hj
          have := (hq i _ (List.getElem?_eq_getElem hi)).2 r u hu
          have e1 : (Addr.add (Addr.add ⟨ab, ao, none⟩ (i * k)) r) = ⟨ab, ao + (i * k + r), none⟩ := by
            unfold Addr.add
            split <;> split <;> simp_all [Nat.add_assoc]
          rw [e1] at this
          exact this
        have hE' : RE w φ κ (fun b => b < w.heap.size) k (l.map en) ((List.range l.length).flatMap css) Ct.z := RE.of_rows css fun i x hx => ⟨(hq i x hx).1.2.1 φ κ, (hq i x hx).1.2.2⟩
        have := RV.ro (c := m) (b := ab) (o := ao) hE' (by simp; omega) hm (fun hne => by
          have hl0 : 0 < l.length := by cases l with
            | nil => exact absurd rfl hne
            | cons _ _ => simp
          have hc0 := (hq 0 _ (List.getElem?_eq_getElem hl0)).1.2.2.2.2
          have hz := (hq 0 _ (List.getElem?_eq_getElem hl0)).2 0 _ (List.getElem?_eq_getElem (by omega))
          simp only [Addr.add, Nat.zero_mul, if_true, World.cell?] at hz
          cases hh : w.heap[ab]? with
          | none => simp [hh] at hz
          | some o => exact (Array.getElem?_eq_some_iff.1 hh).1) hflat
        simpa using this
/-! arguments -/
variable {H : Type} {enc : TypeId × Value → H} {w : World} {base b0 : Nat} {r : Reach} {v : Value} {d : DataW H} {p : List MemPlace}
theorem arg_1 {f : α → AV} (hE : OA P t 1 ok (fun x => [f x])) (hv : v.cells.toList = [v]) (h : DataW.Trod enc P w base (fun _ => true) true t v d p) :
    ∃ x, ok (Rows.uptoBulk d) x ∧ ∀ φ κ, RV w φ κ (fun b => b < w.heap.size) (f x) v Ct.z := by
  obtain ⟨fuel, hf⟩ := h
  obtain ⟨x, x1, x2, x3, _⟩ := hE.2.2 hf
  refine ⟨x, x1, fun φ κ => ?_⟩
  have h1 := x2 φ κ
  rw [hv] at h1
  cases h1 with
  | cons a b c => obtain ⟨rfl, rfl⟩ := Ct.split c; exact a
theorem cells_slice (ht : P.underlying t = some (.slice e)) (hv : Value.okWide P w r b0 t v) : v.cells.toList = [v] := by
  unfold Value.okWide at hv
  rw [ht] at hv
  cases v with
  | agg cs => simp only [Cell.okWide, ht] at hv; simp [Cell.ok, ht] at hv
  | tuple cs => simp only [Cell.okWide, ht] at hv; simp [Cell.ok, ht] at hv
  | _ => rfl
/-! what was there reads as it did -/
theorem trodAll_below (hl : laidOutB P = true) {W W' : World} (hb : Below W.heap.size W W') :
    ∀ (ts : List TypeId) (vs : List Value) (ds : List (DataW H)) (ps : List MemPlace), (∀ t ∈ ts, P.readableRec t = true ∧ t < P.types.size) → (∀ x ∈ ps, x.block < W.heap.size) →
      DataW.TrodAll enc P W 0 (fun _ => true) true ts vs ds ps → DataW.TrodAll enc P W' 0 (fun b => decide (b < W.heap.size)) true ts vs ds ps
  | [], [], [], ps, _, _, h => h
  | t :: ts, v :: vs, d :: ds, ps, hr, hlt, h => by
    obtain ⟨p, q, hd, hs, rfl⟩ := h
    have hrt := hr t (by simp)
    exact ⟨p, q, Below.trod hl hrt.1 hrt.2 hd hb fun x hx => hlt x (by simp [hx]), trodAll_below hl hb ts vs ds q (fun t ht => hr t (by simp [ht])) (fun x hx => hlt x (by simp [hx])) hs, rfl⟩
  | [], _ :: _, _, _, _, _, h => by simp [DataW.TrodAll] at h
  | [], [], _ :: _, _, _, _, h => by simp [DataW.TrodAll] at h
  | _ :: _, [], _, _, _, _, h => by simp [DataW.TrodAll] at h
  | _ :: _, _ :: _, [], _, _, _, h => by simp [DataW.TrodAll] at h
/-- THE LAST STEP: the law returns true and leaves alone what was there -/
theorem law_post {f : Func} {s : ChangeSpec} {apart fresh handsOn : Bool} {W W' : World} {args : Array Value} {ds gs : List (DataW H)} {before : List MemPlace} {tb : TypeId}
    (hl : laidOutB P = true) (hv : s.vars = []) (hrt : f.resultTypes = #[tb]) (hub : P.underlying tb = some .bool) (hread : (f.params.toList.all fun t => P.readableRec t && decide (t < P.types.size)) = true)
    (hW : DataW.Whole enc P f.params.toList s.vars apart W args.toList ds gs before) (hfn : ∀ gs', gs' = [] → s.fn H (ds ++ gs') = { results := [.lit (.bool true)], args := ds }) (hb : Below W.heap.size W W') :
    s.post enc P f apart fresh handsOn false W args (.bool true) W' := by
  have hread' : ∀ t ∈ f.params.toList, P.readableRec t = true ∧ t < P.types.size := fun t ht => by
    have := List.all_eq_true.1 hread t ht
    simpa using this
  have hW' := hW
  obtain ⟨p, q, hA, hV, rfl, hfz, hnd⟩ := hW
  rw [hv] at hV
  obtain ⟨rfl, rfl⟩ := trodVars_none hV
  have hlt : ∀ x ∈ p, x.block < W.heap.size := fun x hx => hW'.lt x (by simpa using hx)
  refine ⟨ds, [], p ++ [], [], p, [], hW', ?_, ?_, ?_, ?_, fun h => by cases h⟩
  · rw [hfn [] rfl, hrt]
    exact trodAll_mk1 (shut_bool hub true)
  · rw [hfn [] rfl]
    exact trodAll_below hl hb _ _ _ _ hread' hlt hA
  · rw [hv, hfn [] rfl]
    rfl
  · refine World.keptBut_mono (fun x hx => ⟨hx, .inr (.inl (by simpa using hx))⟩) (hb.frame (· ∈ p ++ []))
/-- a contract that tells true, in the world that the law is called in -/
theorem ac_law {fn : Nat} {args : List AV} {vs : List Value} {W : World} (h : AC P fn args [] (fun v bs' => v = .sc (.bool true) ∧ bs' = [])) (ha : ∀ φ κ, RC W φ κ (fun b => b < W.heap.size) args vs Ct.z) :
    Calls P fn vs.toArray W fun e W' => e = .returned (.bool true) ∧ Below W.heap.size W W' := by
  refine (h.2 W (fun _ _ => none) (fun _ _ => none) _ vs [] Ct.z Ct.z (ha _ _) .nil (fun i g hi => by simp at hi) (fun _ _ _ => rfl) (fun _ _ => rfl) (fun x => by simp [Ct.z]) (fun x hx => by simp [Ct.z] at hx) (fun x hx => ⟨hx, rfl⟩)).mono ?_
  rintro e W' ⟨v, r, bs', gs', Sr, Sb', φ', F, rfl, ⟨rfl, rfl⟩, hr, _, _, _, _, _, _, hf⟩
  cases hr with
  | sc => exact ⟨rfl, hf.os, hf.tape, hf.output, hf.size, fun b hb => hf.block b hb rfl⟩
theorem bulk_of {l : List (DataW H)} (hk : Rows.uptoSmall H l = true) : Rows.uptoBulkAll l ≤ 1048576 := of_decide_eq_true hk
end
end Go.Proofs.Ytnjfchigdpifmaa

namespace Go.Proofs.Ytnjfchigdpifmaa
set_option linter.unusedVariables false
set_option linter.unusedSimpArgs false
open Go.RowKit Go.ChangeShapes Go.WideShapes Go.ChangeAt Go.Deep
set_option maxRecDepth 100000
theorem laidOut : laidOutB Try.prog = true := by kernel_rfl
theorem own_knob : ownKnob Try.prog.godebug = none := by kernel_rfl
def I64 (x : Int) : Prop := -9223372036854775808 ≤ x ∧ x ≤ 9223372036854775807
theorem i64_of {x : Int} (h : (Lit.int .i64 x).wf = true) : I64 x := by simpa [Lit.wf, IntKind.min, IntKind.max, IntKind.signed, IntKind.bits, I64] using h
theorem u8_of {x : Int} (h : (Lit.int .u8 x).wf = true) : 0 ≤ x ∧ x ≤ 255 := by simpa [Lit.wf, IntKind.min, IntKind.max, IntKind.signed, IntKind.bits] using h
theorem oi : OA Try.prog 3 1 (fun _ x => I64 x) (fun x => [I x]) := (oa_int Try.underlying3 (by kernel_rfl)).map id (fun _ _ _ _ h => h) (fun _ _ h => i64_of h) fun _ => rfl
theorem ou : OA Try.prog 5 1 (fun _ (_ : UInt8) => True) eB := (oa_int Try.underlying5 (by kernel_rfl)).wmap (fun x : Int => UInt8.ofNat x.toNat) (fun _ _ _ _ h => h) (fun _ _ _ => trivial) fun n x hx => by
  have h := u8_of hx
  have e : ((UInt8.ofNat x.toNat).toNat : Int) = x := by rw [UInt8.toNat_ofNat']; omega
  simp only [eB, U, e]
theorem obs : OA Try.prog 22 1 (fun N (l : List UInt8) => (∀ x ∈ l, True) ∧ l.length < N) (fun l => [bs none l]) := oa_slice (by decide) Try.underlying22 (by kernel_rfl) ou
end Go.Proofs.Ytnjfchigdpifmaa

namespace Go.Proofs.Ytnjfchigdpifmaa
set_option linter.unusedVariables false
set_option linter.unusedSimpArgs false
abbrev Rd := Int × List UInt8
/-- a reader f reads what g writes, of what is ok; and what it reads is so written -/
structure Cod {α : Type} (f : Rd → α × Rd) (g : α → List UInt8) (ok : α → Prop) : Prop where
  fwd : ∀ a rest, ok a → f (0, g a ++ rest) = (a, (0, rest))
  bwd : ∀ st, (f st).2.1 = 0 → st.2 = g (f st).1 ++ (f st).2.2 ∧ ok (f st).1
  stk : ∀ st, st.1 ≠ 0 → (f st).2.1 ≠ 0
theorem Cod.zero {α : Type} {f : Rd → α × Rd} {g : α → List UInt8} {ok : α → Prop} (h : Cod f g ok) {st : Rd} (h0 : (f st).2.1 = 0) : st.1 = 0 := by
  by_cases h1 : st.1 = 0
  · exact h1
  · exact absurd h0 (h.stk st h1)
theorem foldl_be (l : List UInt8) : ∀ x : Nat, l.foldl (fun x c => 256 * x + c.toNat) x = x * 256 ^ l.length + beN l := by
  induction l with
  | nil => intro x; simp [beN]
  | cons c l ih =>
    intro x
    have h0 := ih (256 * 0 + c.toNat)
    rw [List.foldl_cons, ih]
    unfold beN at *
    rw [List.foldl_cons, h0, List.length_cons, Nat.pow_succ]
    rw [Nat.add_mul, Nat.mul_zero, Nat.zero_add]
    have : 256 * x * 256 ^ l.length = x * (256 ^ l.length * 256) := by rw [Nat.mul_comm 256 x, Nat.mul_assoc, Nat.mul_comm 256]
    omega
theorem beN_cons (y : UInt8) (b : List UInt8) : beN (y :: b) = y.toNat * 256 ^ b.length + beN b := by
  have := foldl_be b y.toNat
  simp only [beN, List.foldl_cons] at *
  rw [Nat.mul_zero, Nat.zero_add]; exact this
theorem putS_mod (c x m : Nat) : ∀ n, n ≤ m → putS (c * 256 ^ m + x) n = putS x n
  | 0, _ => rfl
  | n + 1, h => by
    rw [putS, putS, putS_mod c x m n (by omega)]
    congr 2
    have hm : c * 256 ^ m = 256 ^ n * (256 * (c * 256 ^ (m - n - 1))) := by
      have h1 : 256 ^ m = 256 ^ n * (256 * 256 ^ (m - n - 1)) := by rw [← Nat.pow_succ', ← Nat.pow_add]; congr 1; omega
      rw [h1, Nat.mul_left_comm, Nat.mul_left_comm c 256]
    rw [hm, Nat.mul_add_div (Nat.pow_pos (by omega)), Nat.mul_add_mod]
theorem putS_beN : ∀ {n : Nat} {b : List UInt8}, b.length = n → putS (beN b) n = b
  | 0, b, h => by rw [List.length_eq_zero_iff.1 h]; rfl
  | n + 1, [], h => by simp at h
  | n + 1, y :: b, h => by
    have hb : b.length = n := by simpa using h
    have hlt := beN_lt b
    rw [hb] at hlt
    rw [beN_cons, hb, putS, putS_mod _ _ _ n (Nat.le_refl _), putS_beN hb]
    congr 1
    rw [Nat.mul_comm, Nat.mul_add_div (Nat.pow_pos (by omega)), Nat.div_eq_of_lt hlt, Nat.add_zero, Nat.mod_eq_of_lt y.toNat_lt]
    simp
theorem beN_putS (x : Nat) : ∀ n, beN (putS x n) = x % 256 ^ n
  | 0 => by simp [putS, beN, Nat.mod_one]
  | n + 1 => by
    rw [putS, beN_cons, putS_length, beN_putS x n]
    have : (UInt8.ofNat (x / 256 ^ n % 256)).toNat = x / 256 ^ n % 256 := by simp
    rw [this, Nat.pow_succ, Nat.mod_mul, Nat.mul_comm, Nat.add_comm]
theorem toI_u (n : Int) (h : I64 n) : toI (IntKind.u64.wrap n).toNat = n := by
  unfold I64 at h
  simp [toI, IntKind.wrap, IntKind.bits, IntKind.signed]; omega
theorem toI_in (x : Nat) : I64 (toI x) := by
  simp [toI, I64, IntKind.wrap, IntKind.bits, IntKind.signed]; omega
theorem intS_toI (x : Nat) (h : x < 2 ^ 64) : intS (toI x) = putS x 8 := by
  have : (IntKind.u64.wrap (toI x)).toNat = x := by simp [toI, IntKind.wrap, IntKind.bits, IntKind.signed]; omega
  rw [intS, this]
theorem beN_intS (n : Int) : beN (intS n) = (IntKind.u64.wrap n).toNat := by
  rw [intS, beN_putS, Nat.mod_eq_of_lt]
  have := wrap_u64_lt n
  simpa using this
/-- readers of so many bytes -/
theorem takeS_zero {α : Type} {z : α} {f : List UInt8 → α × Bool} {n : Nat} {st : Rd} (h : (takeS z f n st).2.1 = 0) :
    st.1 = 0 ∧ n ≤ st.2.length ∧ (f (st.2.take n)).2 = true ∧ takeS z f n st = ((f (st.2.take n)).1, (0, st.2.drop n)) := by
  unfold takeS at h ⊢
  split at h
  · rename_i h0; exact absurd h h0
  · rename_i h0
    split at h
    · simp at h
    · rename_i h1
      split at h
      · rename_i h2
        simp only [Int.toNat_natCast] at h2
        rw [if_neg h0, if_neg h1]
        simp only [Int.toNat_natCast]
        rw [if_pos h2]
        exact ⟨by simpa using h0, by omega, h2, rfl⟩
      · simp at h
theorem takeS_fwd {α : Type} {z : α} {f : List UInt8 → α × Bool} {n : Nat} {b rest : List UInt8} (hb : b.length = n) (hf : (f b).2 = true) : takeS z f n (0, b ++ rest) = ((f b).1, (0, rest)) := by
  subst hb
  unfold takeS
  rw [if_neg (by simp), if_neg (by simp; omega)]
  simp [hf]
theorem takeS_stk {α : Type} {z : α} {f : List UInt8 → α × Bool} {n : Int} {st : Rd} (h : st.1 ≠ 0) : (takeS z f n st).2.1 ≠ 0 := by
  unfold takeS; rw [if_pos h]; exact h
theorem cod_int : Cod intR intS I64 where
  fwd a rest h := by
    unfold intR
    have := takeS_fwd (z := (0 : Int)) (f := intG) (n := 8) (b := intS a) (rest := rest) (intS_length a) rfl
    rw [show ((8 : Nat) : Int) = 8 from rfl] at this
    rw [this, intG, beN_intS, toI_u a h]
  bwd st h := by
    obtain ⟨h1, h2, h3, h4⟩ := takeS_zero (n := 8) (f := intG) (z := (0 : Int)) (st := st) h
    have e : intR st = (toI (beN (st.2.take 8)), (0, st.2.drop 8)) := h4
    have hl : (st.2.take 8).length = 8 := by simp; omega
    rw [e]
    refine ⟨?_, toI_in _⟩
    have hlt := beN_lt (st.2.take 8)
    rw [hl] at hlt
    dsimp only
    rw [intS_toI _ (by simpa using hlt), putS_beN hl, List.take_append_drop]
  stk st h := takeS_stk h
def bytesF' (b : List UInt8) : List UInt8 := putS b.length 4 ++ b
theorem cod_bytes : Cod bytesR bytesF' (fun b => b.length ≤ 65536) where
  fwd a rest h := by
    have hn : beN (putS a.length 4) = a.length := by rw [beN_putS, Nat.mod_eq_of_lt]; simp; omega
    have e1 : lenR (0, putS a.length 4 ++ (a ++ rest)) = ((a.length : Int), (0, a ++ rest)) := by
      have := takeS_fwd (z := (0 : Int)) (f := lenG) (n := 4) (b := putS a.length 4) (rest := a ++ rest) (putS_length _ _) (by simp [lenG, hn]; exact h)
      rw [show ((4 : Nat) : Int) = 4 from rfl] at this
      rw [lenR, this, lenG, hn]
    unfold bytesR bytesF'
    rw [List.append_assoc, e1]
    exact takeS_fwd (z := ([] : List UInt8)) (f := bytesG) (n := a.length) (b := a) (rest := rest) rfl rfl
  bwd st h := by
    have hz : (lenR st).2.1 = 0 := by
      by_cases h0 : (lenR st).2.1 = 0
      · exact h0
      · exact absurd h (takeS_stk h0)
    obtain ⟨h1, h2, h3, h4⟩ := takeS_zero (n := 4) (f := lenG) (z := (0 : Int)) (st := st) hz
    have e : lenR st = ((beN (st.2.take 4) : Int), (0, st.2.drop 4)) := h4
    have hl : (st.2.take 4).length = 4 := by simp; omega
    have hle : beN (st.2.take 4) ≤ 65536 := by simpa [lenG] using h3
    unfold bytesR at h ⊢
    rw [e] at h ⊢
    obtain ⟨g1, g2, g3, g4⟩ := takeS_zero (n := beN (st.2.take 4)) (f := bytesG) (z := ([] : List UInt8)) (st := (0, st.2.drop 4)) h
    dsimp only at g2 g4 ⊢
    rw [g4]
    dsimp only [bytesG, bytesF']
    have hll : ((st.2.drop 4).take (beN (st.2.take 4))).length = beN (st.2.take 4) := by rw [List.length_take]; omega
    rw [hll, putS_beN hl, List.append_assoc, List.take_append_drop, List.take_append_drop]
    exact ⟨rfl, hle⟩
  stk st h := by
    unfold bytesR
    exact takeS_stk (takeS_stk h)
/-- one behind the other -/
theorem Cod.seq {α β : Type} {f : Rd → α × Rd} {g : α → List UInt8} {ok : α → Prop} {f2 : α → Rd → β × Rd} {g2 : α → β → List UInt8} {ok2 : α → β → Prop} (h : Cod f g ok) (h2 : ∀ a, ok a → Cod (f2 a) (g2 a) (ok2 a)) (hs : ∀ a st, st.1 ≠ 0 → (f2 a st).2.1 ≠ 0) :
    Cod (fun st => (((f st).1, (f2 (f st).1 (f st).2).1), (f2 (f st).1 (f st).2).2)) (fun x => g x.1 ++ g2 x.1 x.2) (fun x => ok x.1 ∧ ok2 x.1 x.2) where
  fwd a rest hk := by
    rw [List.append_assoc, h.fwd _ _ hk.1]
    dsimp only
    rw [(h2 _ hk.1).fwd _ _ hk.2]
  bwd st h0 := by
    dsimp only at h0 ⊢
    have hz : (f st).2.1 = 0 := by
      by_cases h1 : (f st).2.1 = 0
      · exact h1
      · exact absurd h0 (hs _ _ h1)
    obtain ⟨a1, a2⟩ := h.bwd st hz
    obtain ⟨b1, b2⟩ := (h2 _ a2).bwd _ h0
    exact ⟨by rw [a1, List.append_assoc]; congr 1, a2, b2⟩
  stk st h0 := hs _ _ (h.stk st h0)
/-- the same under other names -/
theorem Cod.iso {α β : Type} {f : Rd → α × Rd} {g : α → List UInt8} {ok : α → Prop} (h : Cod f g ok) (t : α → β) (u : β → α) {f' : Rd → β × Rd} {g' : β → List UInt8} {ok' : β → Prop}
    (hf : ∀ st, f' st = (t (f st).1, (f st).2)) (hg : ∀ b, ok' b → g' b = g (u b)) (hok : ∀ b, ok' b → ok (u b) ∧ t (u b) = b) (hok' : ∀ a, ok a → ok' (t a) ∧ u (t a) = a) : Cod f' g' ok' where
  fwd b rest hb := by
    rw [hf, hg b hb, h.fwd _ _ (hok b hb).1]
    dsimp only
    rw [(hok b hb).2]
  bwd st h0 := by
    rw [hf] at h0 ⊢
    obtain ⟨a1, a2⟩ := h.bwd st h0
    have := hok' _ a2
    exact ⟨by dsimp only; rw [hg _ this.1, this.2]; exact a1, this.1⟩
  stk st h0 := by rw [hf]; exact h.stk st h0
end Go.Proofs.Ytnjfchigdpifmaa

namespace Go.Proofs.Ytnjfchigdpifmaa
set_option linter.unusedVariables false
set_option linter.unusedSimpArgs false
open Go.RowKit
set_option maxRecDepth 100000
inductive Sh where
  | i (k : IntKind)
  | b
  | s
deriving DecidableEq
/-- a cell held against another one -/
def eqV1 : Value → Value → Bool
  | .int _ a, .int _ b => a == b
  | .bool a, .bool b => a == b
  | .string a, .string b => a.toList == b.toList
  | _, _ => false
def eqVs : List Value → List Value → Bool
  | [], [] => true
  | x :: l, y :: m => eqV1 x y && eqVs l m
  | _, _ => false
def shC1 : Sh → Value → Bool
  | .i k, .int k' _ => decide (k' = k)
  | .b, .bool _ => true
  | .s, .string _ => true
  | _, _ => false
def shC : List Sh → List Value → Bool
  | [], [] => true
  | h :: l, v :: m => shC1 h v && shC l m
  | _, _ => false
def repS (sh : List Sh) : Nat → List Sh
  | 0 => []
  | n + 1 => sh ++ repS sh n
def aggT (P : Program) (t : TypeId) : Bool := match P.underlying t with
  | some (.struct _) | some (.array _ _) => true
  | _ => false
def flatFs (f : TypeId → Option (List Sh)) : Nat → List Field → Option (List Sh)
  | _, [] => some []
  | off, x :: l => match x.name != "_" && Nat.beq x.offset off, f x.type with
    | true, some sh => match flatFs f (off + sh.length) l with
      | some r => some (sh ++ r)
      | none => none
    | _, _ => none
def flatT (P : Program) : Nat → TypeId → Option (List Sh)
  | 0, _ => none
  | d + 1, t => match P.underlying t with
    | some .bool => some [.b]
    | some (.int k) => some [.i k]
    | some .string => some [.s]
    | some (.array n e) => match flatT P d e with
      | some sh => match Nat.beq (P.cellsOf e) sh.length with
        | true => some (repS sh n)
        | false => none
      | none => none
    | some (.struct fs) => match P.stoodInHeld t with
      | true => none
      | false => flatFs (fun u => match flatT P d u with
        | some sh => match Nat.beq (P.cellsOf u) sh.length with
          | true => some sh
          | false => none
        | none => none) 0 fs.toList
    | _ => none
theorem eqVs_append : ∀ {a b c d : List Value}, a.length = b.length → eqVs (a ++ c) (b ++ d) = (eqVs a b && eqVs c d)
  | [], [], c, d, _ => by simp [eqVs]
  | x :: a, y :: b, c, d, h => by simp only [List.cons_append, eqVs]; rw [eqVs_append (by simpa using h), Bool.and_assoc]
theorem shC_length : ∀ {sh : List Sh} {vs : List Value}, shC sh vs = true → vs.length = sh.length
  | [], [], _ => rfl
  | _ :: l, _ :: m, h => by simp only [shC, Bool.and_eq_true] at h; simp [shC_length h.2]
theorem shC_split : ∀ {a b : List Sh} {vs : List Value}, shC (a ++ b) vs = true → shC a (vs.take a.length) = true ∧ shC b (vs.drop a.length) = true
  | [], b, vs, h => ⟨by simp [shC], by simpa using h⟩
  | x :: a, b, [], h => by simp [shC] at h
  | x :: a, b, v :: vs, h => by
    simp only [List.cons_append, shC, Bool.and_eq_true] at h
    have := shC_split h.2
    simp only [List.length_cons, List.take_succ_cons, shC, Bool.and_eq_true, List.drop_succ_cons]
    exact ⟨⟨h.1, this.1⟩, this.2⟩
def valT (P : Program) (t : TypeId) (cs : List Value) : Value := match aggT P t with
  | true => .agg cs.toArray
  | false => cs.headD undef
section
variable {P : Program}
theorem run_part_flat {d : Nat} {e : TypeId} {sh : List Sh} (hf : flatT P d e = some sh) (hn : P.cellsOf e = sh.length) (w : World) (xs : List Value) (off : Nat) (h : shC sh ((xs.drop off).take sh.length) = true) :
    (part e xs.toArray off).run P w = .ok (valT P e ((xs.drop off).take sh.length)) w := by
  have hl := shC_length h
  cases d with
  | zero => simp [flatT] at hf
  | succ d =>
    cases hu : P.underlying e with
    | none => simp [flatT, hu] at hf
    | some kd =>
      obtain ⟨i, hi⟩ := info_of_underlying hu
      have agg : aggT P e = true → (part e xs.toArray off).run P w = .ok (valT P e ((xs.drop off).take sh.length)) w := by
        intro ha
        have hk : (∃ n e', kd = .array n e') ∨ (∃ fs, kd = .struct fs) := by
          unfold aggT at ha
          rw [hu] at ha
          cases kd <;> simp at ha <;> first | exact .inl ⟨_, _, rfl⟩ | exact .inr ⟨_, rfl⟩
        have hs : (sizeOf e).run P w = .ok sh.length w := by rw [run_sizeOf w hi, hn]
        unfold part valT
        rw [ha]
        have hx : (xs.toArray.extract off (off + sh.length)) = ((xs.drop off).take sh.length).toArray := by
          simp [List.extract_toArray, List.extract_eq_take_drop]
        rcases hk with ⟨n, e', rfl⟩ | ⟨fs, rfl⟩ <;> simp [Sem.run_bind, isAgg, run_underlying hu, hs, hx, Result.andThen_ok]
      have one : aggT P e = false → sh.length = 1 → (part e xs.toArray off).run P w = .ok (valT P e ((xs.drop off).take sh.length)) w := by
        intro ha h1
        have hk : (isAgg e).run P w = .ok false w := by
          unfold aggT at ha
          rw [hu] at ha
          cases kd <;> simp at ha <;> simp [isAgg, Sem.run_bind, run_underlying hu, Result.andThen_ok]
        rw [h1] at hl h ⊢
        unfold part valT
        rw [ha]
        obtain ⟨v, hv⟩ : ∃ v, xs[off]? = some v := by
          rw [List.length_take, List.length_drop] at hl
          exact ⟨_, List.getElem?_eq_getElem (by omega)⟩
        have hd : (xs.drop off).take 1 = [v] := by
          have h2 : off < xs.length := (List.getElem?_eq_some_iff.1 hv).1
          rw [List.drop_eq_getElem_cons h2]
          rw [List.getElem?_eq_getElem h2] at hv
          simp at hv; simp [hv]
        rw [hd]
        simp [Sem.run_bind, hk, Result.andThen_ok, hv]
      cases hA : aggT P e with
      | true => exact agg hA
      | false =>
        refine one hA ?_
        unfold flatT at hf
        rw [hu] at hf
        unfold aggT at hA
        rw [hu] at hA
        cases kd <;> simp at hf hA <;> (subst hf; rfl)
def EqF (P : Program) (dd : Nat) (t : TypeId) (sh : List Sh) : Prop :=
  ∀ (w : World) (xs ys : List Value), shC sh xs = true → shC sh ys = true → (Op.equalIn dd t (valT P t xs) (valT P t ys)).run P w = .ok (eqVs xs ys) w
theorem valT_agg {t : TypeId} {cs : List Value} (h : aggT P t = true) : valT P t cs = .agg cs.toArray := by unfold valT; rw [h]
theorem run_eqFields_flat {dd : Nat} {f : TypeId → Option (List Sh)} (hf : ∀ u sh, f u = some sh → P.cellsOf u = sh.length ∧ (∃ d, flatT P d u = some sh) ∧ EqF P dd u sh) (xs ys : List Value) (w : World) : ∀ (fs : List Field) (off : Nat) (sh : List Sh), flatFs f off fs = some sh →
    shC sh (xs.drop off) = true → shC sh (ys.drop off) = true → (Op.eqFields dd xs.toArray ys.toArray fs).run P w = .ok (eqVs (xs.drop off) (ys.drop off)) w
  | [], off, sh, h, h1, h2 => by
    simp only [flatFs, Option.some.injEq] at h; subst h
    have a1 := List.length_eq_zero_iff.1 (shC_length h1)
    have a2 := List.length_eq_zero_iff.1 (shC_length h2)
    simp [Op.eqFields, a1, a2, eqVs]
  | x :: l, off, sh, h, h1, h2 => by
    unfold flatFs at h
    split at h <;> try cases h
    rename_i sx hx hfx
    split at h <;> try cases h
    rename_i r hr
    simp only [Bool.and_eq_true, bne_iff_ne, ne_eq] at hx
    obtain ⟨hn, ho⟩ := hx
    have ho : x.offset = off := Nat.eq_of_beq_eq_true ho
    obtain ⟨k1, ⟨d, k2⟩, k3⟩ := hf _ _ hfx
    obtain ⟨a1, a2⟩ := shC_split h1
    obtain ⟨b1, b2⟩ := shC_split h2
    rw [List.drop_drop] at a2 b2
    have p1 := run_part_flat k2 k1 w xs off a1
    have p2 := run_part_flat k2 k1 w ys off b1
    have p3 := k3 w _ _ a1 b1
    have ih := run_eqFields_flat hf xs ys w l (off + sx.length) r hr a2 b2
    have e : eqVs (xs.drop off) (ys.drop off) = (eqVs ((xs.drop off).take sx.length) ((ys.drop off).take sx.length) && eqVs (xs.drop (off + sx.length)) (ys.drop (off + sx.length))) := by
      rw [← List.drop_drop, ← List.drop_drop, ← eqVs_append (by rw [shC_length a1, shC_length b1]), List.take_append_drop, List.take_append_drop]
    simp only [Op.eqFields, hn, ne_eq, not_false_eq_true, if_true, Sem.run_bind]
    rw [ho, p1]
    simp only [Result.andThen_ok, p2, p3]
    rw [e]
    cases eqVs ((xs.drop off).take sx.length) ((ys.drop off).take sx.length) with
    | false => simp
    | true => simpa using ih
theorem run_eqItems_flat {dd : Nat} {e : TypeId} {sh : List Sh} (hn : P.cellsOf e = sh.length) (hd : ∃ d, flatT P d e = some sh) (hE : EqF P dd e sh) (xs ys : List Value) (w : World) : ∀ (m k : Nat),
    shC (repS sh m) (xs.drop (k * sh.length)) = true → shC (repS sh m) (ys.drop (k * sh.length)) = true → (Op.eqItems dd e (P.cellsOf e) xs.toArray ys.toArray (List.range' k m)).run P w = .ok (eqVs (xs.drop (k * sh.length)) (ys.drop (k * sh.length))) w
  | 0, k, h1, h2 => by
    have a1 := List.length_eq_zero_iff.1 (shC_length h1)
    have a2 := List.length_eq_zero_iff.1 (shC_length h2)
    simp [Op.eqItems, a1, a2, eqVs]
  | m + 1, k, h1, h2 => by
    obtain ⟨d, k2⟩ := hd
    obtain ⟨a1, a2⟩ := shC_split (a := sh) (b := repS sh m) h1
    obtain ⟨b1, b2⟩ := shC_split (a := sh) (b := repS sh m) h2
    have hk : k * sh.length + sh.length = (k + 1) * sh.length := by rw [Nat.add_mul]; omega
    rw [List.drop_drop, hk] at a2 b2
    have p1 := run_part_flat k2 hn w xs (k * sh.length) a1
    have p2 := run_part_flat k2 hn w ys (k * sh.length) b1
    have p3 := hE w _ _ a1 b1
    have ih := run_eqItems_flat hn ⟨d, k2⟩ hE xs ys w m (k + 1) a2 b2
    have e : eqVs (xs.drop (k * sh.length)) (ys.drop (k * sh.length)) = (eqVs ((xs.drop (k * sh.length)).take sh.length) ((ys.drop (k * sh.length)).take sh.length) && eqVs (xs.drop ((k + 1) * sh.length)) (ys.drop ((k + 1) * sh.length))) := by
      rw [← hk, ← List.drop_drop, ← List.drop_drop, ← eqVs_append (by rw [shC_length a1, shC_length b1]), List.take_append_drop, List.take_append_drop]
    rw [List.range'_succ]
    simp only [Op.eqItems, Sem.run_bind]
    rw [hn] at ih ⊢
    rw [p1]
    simp only [Result.andThen_ok, p2, p3]
    rw [e]
    cases eqVs ((xs.drop (k * sh.length)).take sh.length) ((ys.drop (k * sh.length)).take sh.length) with
    | false => simp
    | true => simpa using ih
theorem eqF : ∀ (d k : Nat) (t : TypeId) (sh : List Sh), flatT P d t = some sh → EqF P (k + d) t sh
  | 0, _, _, _, h => by simp [flatT] at h
  | d + 1, k, t, sh, h => by
    intro w xs ys hx hy
    have hall := h
    unfold flatT at h
    have two : ∀ {h0 : Sh}, sh = [h0] → ∃ v u, xs = [v] ∧ ys = [u] ∧ shC1 h0 v = true ∧ shC1 h0 u = true := by
      intro h0 hs
      subst hs
      have l1 := shC_length hx
      have l2 := shC_length hy
      obtain ⟨v, rfl⟩ := List.length_eq_one_iff.1 l1
      obtain ⟨u, rfl⟩ := List.length_eq_one_iff.1 l2
      exact ⟨v, u, rfl, rfl, by simpa [shC] using hx, by simpa [shC] using hy⟩
    split at h <;> try cases h
    · rename_i hu
      obtain ⟨v, u, rfl, rfl, h1, h2⟩ := two rfl
      cases v <;> simp [shC1] at h1
      cases u <;> simp [shC1] at h2
      simp [valT, aggT, hu, eqVs, eqV1, run_equalIn_bool w (k + d) t _ _ hu, ← Nat.add_assoc]
    · rename_i q hu
      obtain ⟨v, u, rfl, rfl, h1, h2⟩ := two rfl
      cases v <;> simp [shC1] at h1
      cases u <;> simp [shC1] at h2
      subst h1; subst h2
      simp [valT, aggT, hu, eqVs, eqV1, run_equalIn_int (w := w) (k + d) t _ _ _ _ hu, ← Nat.add_assoc]
    · rename_i hu
      obtain ⟨v, u, rfl, rfl, h1, h2⟩ := two rfl
      cases v <;> simp [shC1] at h1
      cases u <;> simp [shC1] at h2
      simp [valT, aggT, hu, eqVs, eqV1, run_equalIn_string (w := w) (k + d) t _ _ hu, ← Nat.add_assoc]
    · rename_i n e hu
      split at h <;> try cases h
      rename_i sh0 hf
      split at h <;> cases h
      rename_i hn
      have hn := Nat.eq_of_beq_eq_true hn
      have hA : aggT P t = true := by unfold aggT; rw [hu]
      obtain ⟨i, hi⟩ : ∃ i, P.info? e = some i := by
        cases d with
        | zero => simp [flatT] at hf
        | succ d =>
          cases hu2 : P.underlying e with
          | none => simp [flatT, hu2] at hf
          | some kd => exact info_of_underlying hu2
      rw [valT_agg hA, valT_agg hA, ← Nat.add_assoc, run_equalIn_array w (k + d) _ _ hu hi, List.range_eq_range']
      have := run_eqItems_flat hn ⟨d, hf⟩ (eqF d k e sh0 hf) xs ys w n 0 (by simpa using hx) (by simpa using hy)
      simpa using this
    · rename_i fs hu
      split at h <;> try cases h
      rename_i hst
      have hA : aggT P t = true := by unfold aggT; rw [hu]
      have hfs : P.fieldsOf t = fs := by unfold Program.fieldsOf; rw [hu]
      rw [valT_agg hA, valT_agg hA, ← Nat.add_assoc, run_equalIn_struct w (k + d) t _ _ (by rw [hfs]; exact hu) hst, hfs]
      have := run_eqFields_flat (dd := k + d) (fun u s hs => by
        split at hs <;> try cases hs
        rename_i s' hs'
        split at hs <;> cases hs
        rename_i hn
        exact ⟨Nat.eq_of_beq_eq_true hn, ⟨d, hs'⟩, eqF d k u _ hs'⟩) xs ys w fs.toList 0 sh h (by simpa using hx) (by simpa using hy)
      simpa using this
theorem run_eq_flat {t : TypeId} {sh : List Sh} {xs ys : List Value} (hf : flatT P 9 t = some sh) (hA : aggT P t = true) (hx : shC sh xs = true) (hy : shC sh ys = true) (w : World) : (Op.equal t (.agg xs.toArray) (.agg ys.toArray)).run P w = .ok (eqVs xs ys) w := by
  have := eqF 9 9991 t sh hf w xs ys hx hy
  rw [valT_agg hA, valT_agg hA] at this
  exact this
end
def flatOK (P : Program) (t : TypeId) (xs ys : List Value) : Bool := match flatT P 9 t with
  | some sh => aggT P t && shC sh xs && shC sh ys
  | none => false
theorem run_eq_ok {P : Program} {t : TypeId} {xs ys : List Value} (h : flatOK P t xs ys = true) (w : World) : (Op.equal t (.agg xs.toArray) (.agg ys.toArray)).run P w = .ok (eqVs xs ys) w := by
  unfold flatOK at h
  split at h
  · rename_i sh hf
    simp only [Bool.and_eq_true] at h
    exact run_eq_flat hf h.1.1 h.1.2 h.2 w
  · cases h
/-- the law at an operation -/
theorem pq_eqF {X : Cx} {s : AS} {o : Oper} {op : BinOp} {T T' : TypeId} {x y : Operand} {l l' : List AV} {vs us : List Value} {r : Bool} (ho : o.op = .binOp op T x y T') (hx : aev s x = .ag l) (hy : aev s y = .ag l') (hl : scs l = some vs) (hl' : scs l' = some us)
    (hgd : Try.prog.eqGuardType Try.prog.depth T = false) (hf : flatOK Try.prog T vs us = true) (hr : nilB op (eqVs vs us) = some r) : Pq Try.prog X s o (.sc (.bool r)) :=
  pq_eqAg ho hx hy hl hl' hgd (run_eq_ok hf) hr
section
variable {X : Cx} {s : AS} {ops : Array Oper} {rest : List Oper} {Q : Exit → AS → Prop} {Qa : AS → Prop} {d : Option Nat} {ty : Nat} {pos : String} {aft : Array Edge} {op : BinOp} {T T' : TypeId} {x y : Operand} {l l' : List AV} {vs us : List Value} {r : Bool}
theorem AP.EQ (K : AP Try.prog X ops Q rest (s.put d (.sc (.bool r)))) (hx : aev s x = .ag l := by exact rfl) (hy : aev s y = .ag l' := by exact rfl) (hl : scs l = some vs := by exact rfl) (hl' : scs l' = some us := by exact rfl)
    (hgd : Try.prog.eqGuardType Try.prog.depth T = false := by kernel_rfl) (hf : flatOK Try.prog T vs us = true := by kernel_rfl) (hr : nilB op (eqVs vs us) = some r := by exact rfl) : AP Try.prog X ops Q (⟨d, .binOp op T x y T', ty, pos, aft, none⟩ :: rest) s :=
  AP.pure rfl (pq_eqF rfl hx hy hl hl' hgd hf hr) K
theorem AQ.EQ (K : AQ Try.prog X ops Qa rest (s.put d (.sc (.bool r)))) (hx : aev s x = .ag l := by exact rfl) (hy : aev s y = .ag l' := by exact rfl) (hl : scs l = some vs := by exact rfl) (hl' : scs l' = some us := by exact rfl)
    (hgd : Try.prog.eqGuardType Try.prog.depth T = false := by kernel_rfl) (hf : flatOK Try.prog T vs us = true := by kernel_rfl) (hr : nilB op (eqVs vs us) = some r := by exact rfl) : AQ Try.prog X ops Qa (⟨d, .binOp op T x y T', ty, pos, aft, none⟩ :: rest) s :=
  AQ.pure rfl (pq_eqF rfl hx hy hl hl' hgd hf hr) K
end
end Go.Proofs.Ytnjfchigdpifmaa

namespace Go.Proofs.Ytnjfchigdpifmaa
set_option linter.unusedVariables false
set_option linter.unusedSimpArgs false
open Go.RowKit
set_option maxRecDepth 100000
theorem wrap_lit {x : Int} (h1 : -9223372036854775808 ≤ x) (h2 : x ≤ 9223372036854775807) : IntKind.i64.wrap x = x := wrap_i64 (by omega) (by omega)
theorem RC.app {w : World} {φ : Fi} {κ : Ka} {R : Nat → Prop} : ∀ {l m : List AV} {us vs : List Value}, RC w φ κ R l us Ct.z → RC w φ κ R m vs Ct.z → RC w φ κ R (l ++ m) (us ++ vs) Ct.z
  | [], m, us, vs, h, k => by cases h; exact k
  | a :: l, m, us, vs, h, k => by
    cases h with
    | cons h1 h2 h3 =>
      obtain ⟨rfl, rfl⟩ := Ct.split h3
      exact .cons (S := Ct.z) (T := Ct.z) h1 (RC.app h2 k) fun _ => rfl
theorem RE.flat {w : World} {φ : Fi} {κ : Ka} {R : Nat → Prop} {k : Nat} : ∀ {s : List (List AV)} {us : List Value}, RE w φ κ R k s us Ct.z → RC w φ κ R s.flatten us Ct.z ∧ (∀ u ∈ us, u.oneCell' = true) ∧ ∀ x ∈ s.flatten, x.leaf = true
  | [], us, h => by cases h; exact ⟨.nil, by simp, by simp⟩
  | c :: s, us, h => by
    cases h with
    | cons h1 h2 h3 h4 h5 =>
      obtain ⟨rfl, rfl⟩ := Ct.split h5
      obtain ⟨a, b, d⟩ := RE.flat h4
      refine ⟨by rw [List.flatten_cons]; exact RC.app h1 a, fun u hu => (List.mem_append.1 hu).elim (h3.1 u) (b u), fun x hx => ?_⟩
      rw [List.flatten_cons] at hx
      exact (List.mem_append.1 hx).elim (h3.2 x) (d x)
section
variable {X : Cx} {s : AS} {o : Oper} {ops : Array Oper} {rest : List Oper} {Q : Exit → AS → Prop} {Qa : AS → Prop}
/-- a slice of known length, as the address of an array -/
theorem pq_sap {T n e k : Nat} {x : Operand} {i : TI} {rows : List (List AV)} (ho : o.op = .sliceToArrayPointer T x) (hx : aev s x = .sl none k rows) (hT : tt[T]? = some i) (hk : i.kd = .ar n e) (hn : Nat.beq rows.length n = true) (h0 : Nat.ble 1 n = true) : Pq Try.prog X s o (.rp (rows.length * k) [rows.flatten] 0 0) := .of_run fun X φ κ f a w h => by
  have hn := Nat.eq_of_beq_eq_true hn
  have h0 := Nat.le_of_ble_eq_true h0
  have h1 := h.evs hx
  generalize hp : a.eval x = p at h1
  cases h1 with
  | ni => simp at hn; omega
  | ne => simp at hn; omega
  | ro hre hle hm hR hc =>
    rename_i b o'' c us
    obtain ⟨f1, f2, f3⟩ := RE.flat hre
    have hl := RE.length hre
    have := RV.rp (i := 0) (off := 0) (k := rows.length * k) (s := [rows.flatten]) (RE.cons (S := Ct.z) (T := Ct.z) f1 hl ⟨f2, f3⟩ .nil fun _ => rfl) (hR (by rintro rfl; simp at hn; omega)) (b := b) (o := o'') (us := us ++ []) (fun j u hj => hc j u (by simpa using hj))
    simp only [Nat.zero_mul, Nat.add_zero] at this
    refine ⟨_, this, fun w' _ => ?_⟩
    simp only [execOp, ho, hp]
    simp [Instr.arrayAt, run_underlying (ty_ar hT hk), go_sem, hn]
theorem AP.SA {T n e k : Nat} {x : Operand} {i : TI} {rows : List (List AV)} {c : List AV} {m : Nat} (K : AP Try.prog X ops Q rest (s.put o.dst (.rp m [c] 0 0))) (hg : o.guard = none := by exact rfl) (ho : o.op = .sliceToArrayPointer T x := by exact rfl) (hx : aev s x = .sl none k rows := by exact rfl) (hT : tt[T]? = some i := by exact rfl) (hk : i.kd = .ar n e := by exact rfl) (hn : Nat.beq rows.length n = true := by exact rfl) (h0 : Nat.ble 1 n = true := by exact rfl) (hc : rows.flatten = c := by (simp only [List.flatten_cons, List.flatten_nil, List.cons_append, List.nil_append, List.append_nil]; exact rfl)) (hm : rows.length * k = m := by (simp only [List.length_cons, List.length_nil, Nat.reduceAdd, Nat.reduceMul]; exact rfl)) : AP Try.prog X ops Q (o :: rest) s :=
  AP.pure hg (hm ▸ hc ▸ pq_sap ho hx hT hk hn h0) K
end
section
variable {X : Cx} {s : AS} {o : Oper} {ops : Array Oper} {rest : List Oper} {Q : Exit → AS → Prop} {av : AV}
/-- a store at a number that is reckoned -/
theorem AP.TB {T T' : TypeId} {x y : Operand} {b u off : Nat} {l : List AV} {i : TI} (K : AP Try.prog X ops Q rest (AS.put ⟨s.t, s.b.set b ⟨u, .c T' (spl l off av.cells)⟩⟩ o.dst (.tu []))) (hg : o.guard = none := by exact rfl) (ho : o.op = .store T x y := by exact rfl) (hx : aev s x = .bp b u off := by exact rfl) (hs : s.b[b]? = some ⟨u, .c T' l⟩ := by exact rfl) (hy : aev s y = av := by exact rfl) (hk : av.known = true := by exact rfl)
    (hT : tt[T]? = some i := by exact rfl) (hn : av.cells.length = i.size := by exact rfl) (hl : off + i.size ≤ l.length := by first | omega | (simp; omega)) : AP Try.prog X ops Q (o :: rest) s :=
  ap_store hg ho hx hs hy hk hT hn (by rw [Nat.ble_eq]; exact hl) K
/-- a load there -/
theorem AP.LB {T T' : TypeId} {x : Operand} {b u off : Nat} {l : List AV} {i : TI} {d : Option Nat} {ty : Nat} {pos : String} {aft : Array Edge} (K : AP Try.prog X ops Q rest (s.put d av)) (hx : aev s x = .bp b u off := by exact rfl) (hs : s.b[b]? = some ⟨u, .c T' l⟩ := by exact rfl) (hT : tt[T]? = some i := by exact rfl) (hk : rowK i.kd = false := by exact rfl) (hl : l[off]? = some av := by assumption) : AP Try.prog X ops Q (⟨d, .load T x, ty, pos, aft, none⟩ :: rest) s :=
  AP.pure rfl (pq_load1 rfl hx hs hT hk hl) K
end
/-- 32 bytes as cells -/
abbrev tagC (t : List UInt8) : List AV := [U (t.getD 0 0), U (t.getD 1 0), U (t.getD 2 0), U (t.getD 3 0), U (t.getD 4 0), U (t.getD 5 0), U (t.getD 6 0), U (t.getD 7 0), U (t.getD 8 0), U (t.getD 9 0), U (t.getD 10 0), U (t.getD 11 0), U (t.getD 12 0), U (t.getD 13 0), U (t.getD 14 0), U (t.getD 15 0), U (t.getD 16 0), U (t.getD 17 0), U (t.getD 18 0), U (t.getD 19 0), U (t.getD 20 0), U (t.getD 21 0), U (t.getD 22 0), U (t.getD 23 0), U (t.getD 24 0), U (t.getD 25 0), U (t.getD 26 0), U (t.getD 27 0), U (t.getD 28 0), U (t.getD 29 0), U (t.getD 30 0), U (t.getD 31 0)]
abbrev tg (t : List UInt8) : AV := .ag (tagC t)
/-- a list of 32, as one -/
theorem exN : ∀ (n : Nat) {x : List UInt8}, x.length = n → x = (List.range n).map fun i => x.getD i 0
  | n, x, h => by
    refine List.ext_getElem? fun i => ?_
    rw [List.getElem?_map]
    rcases Nat.lt_or_ge i n with hi | hi
    · rw [List.getElem?_range hi, List.getElem?_eq_getElem (by omega)]
      simp [List.getD_eq_getElem?_getD, List.getElem?_eq_getElem (show i < x.length by omega)]
    · rw [List.getElem?_eq_none (by omega), List.getElem?_eq_none (by simpa using hi)]; rfl
theorem ex32 {x : List UInt8} (h : x.length = 32) : x = [x.getD 0 0, x.getD 1 0, x.getD 2 0, x.getD 3 0, x.getD 4 0, x.getD 5 0, x.getD 6 0, x.getD 7 0, x.getD 8 0, x.getD 9 0, x.getD 10 0, x.getD 11 0, x.getD 12 0, x.getD 13 0, x.getD 14 0, x.getD 15 0, x.getD 16 0, x.getD 17 0, x.getD 18 0, x.getD 19 0, x.getD 20 0, x.getD 21 0, x.getD 22 0, x.getD 23 0, x.getD 24 0, x.getD 25 0, x.getD 26 0, x.getD 27 0, x.getD 28 0, x.getD 29 0, x.getD 30 0, x.getD 31 0] := exN 32 h
/-- the first ones are there -/
def mixT (l : List UInt8) (i : Nat) : List AV := (List.range 32).map fun j => U (if j < i then l.getD j 0 else 0)
theorem mixT_len (l : List UInt8) (i : Nat) : (mixT l i).length = 32 := by simp [mixT]
theorem mixT_32 (l : List UInt8) : mixT l 32 = tagC l := rfl
end Go.Proofs.Ytnjfchigdpifmaa

namespace Go.Proofs.Ytnjfchigdpifmaa
set_option linter.unusedVariables false
set_option linter.unusedSimpArgs false
set_option maxHeartbeats 8000000
open Go.RowKit
set_option maxRecDepth 100000
structure Pkt where
  frm : Int
  to : Int
  epoch : Int
  boot : Int
  seqn : Int
  body : List UInt8
  tag : List UInt8
abbrev eP (p : Pkt) : List AV := [I p.frm, I p.to, I p.epoch, I p.boot, I p.seqn, bs none p.body, U (p.tag.getD 0 0), U (p.tag.getD 1 0), U (p.tag.getD 2 0), U (p.tag.getD 3 0), U (p.tag.getD 4 0), U (p.tag.getD 5 0), U (p.tag.getD 6 0), U (p.tag.getD 7 0), U (p.tag.getD 8 0), U (p.tag.getD 9 0), U (p.tag.getD 10 0), U (p.tag.getD 11 0), U (p.tag.getD 12 0), U (p.tag.getD 13 0), U (p.tag.getD 14 0), U (p.tag.getD 15 0), U (p.tag.getD 16 0), U (p.tag.getD 17 0), U (p.tag.getD 18 0), U (p.tag.getD 19 0), U (p.tag.getD 20 0), U (p.tag.getD 21 0), U (p.tag.getD 22 0), U (p.tag.getD 23 0), U (p.tag.getD 24 0), U (p.tag.getD 25 0), U (p.tag.getD 26 0), U (p.tag.getD 27 0), U (p.tag.getD 28 0), U (p.tag.getD 29 0), U (p.tag.getD 30 0), U (p.tag.getD 31 0)]
def whoS (n : Int) : Bool := (decide (0 ≤ n) && decide (n ≤ 4)) || n == 8 || n == 9
def mayP (p : Pkt) : Bool := whoS p.frm && whoS p.to && !(p.frm == p.to) && decide (1 ≤ p.epoch) && decide (0 ≤ p.boot) && decide (1 ≤ p.seqn)
theorem known_ac (n : Int) : AC Try.prog 45 [I n] [] (fun v bs' => v = B (whoS n) ∧ bs' = []) := by
  refine AC.N Try.func45 Try.ntmps45 ?_
  intro X hρ hmks
  simp only [nx, Nat.reduceAdd, Nat.reduceSub, BEq.rfl]
  repeat' (first
    | ((first
    | ((with_reducible apply AP.k_any); first
            | refine AP.S ?_
            | (refine AP.Y ?_; dsimp only) | refine AP.G (fun hg => ?_) (fun hg => ?_)
            | refine AP.A ?_ | refine AP.AB 0 ?_ | refine AP.AB 1 ?_ | refine AP.AL ?_
            )
    ) <;> (try simp only [nx, Nat.reduceAdd, Nat.reduceSub, BEq.rfl]))
    | ((with_reducible apply AP.k_nil); first | (refine AP.nil (hQ' _ ?_); clear hQ' Q') | refine AP.nil ?_)
    | ((with_reducible apply CP.k_reg); refine cp_regG fun Q' hQ' => ?_)
      | (with_reducible apply CP.k_reg1; refine cp_region ?_)
      | ((with_reducible apply CP.k_cond); first | refine cp_condT rfl ?_ | refine cp_condF rfl ?_ | refine cp_cond rfl (fun hc => ?_) (fun hc => ?_))
      | refine CP.go ?_
      | (simp only [List.append_eq, List.cons_append, List.nil_append]))
  all_goals (refine RetQ.B [] ?_; (try dsimp only [resV, List.getD_cons_succ, List.getD_cons_zero]); ((refine ⟨congrArg B ?_, rfl⟩; (repeat (rename AC _ _ _ _ _ => hzz; clear hzz)); simp at *; simp [whoS, *]; try omega)))
theorem mayP_ac (p : Pkt) : AC Try.prog 16 [.ag (eP p)] [] (fun v bs' => v = B (mayP p) ∧ bs' = []) := by
  have h1 := known_ac p.frm
  have h2 := known_ac p.to
  unfold mayP
  generalize whoS p.frm = x at h1 ⊢
  generalize whoS p.to = y at h2 ⊢
  refine AC.N Try.func16 Try.ntmps16 ?_
  intro X hρ hmks
  simp only [nx, Nat.reduceAdd, Nat.reduceSub, BEq.rfl]
  repeat' (first
    | ((first
    | ((with_reducible apply AP.k_any); first
            | refine AP.S ?_
            | (refine AP.Y ?_; dsimp only) | refine AP.G (fun hg => ?_) (fun hg => ?_)
            | refine AP.A ?_ | refine AP.AB 0 ?_ | refine AP.AB 1 ?_ | refine AP.AL ?_
            | ((with_reducible apply AP.k_any); refine AP.C (h1) ?_))
    ) <;> (try simp only [nx, Nat.reduceAdd, Nat.reduceSub, BEq.rfl]))
    | ((with_reducible apply AP.k_nil); first | (refine AP.nil (hQ' _ ?_); clear hQ' Q') | refine AP.nil ?_)
    | ((with_reducible apply CP.k_reg); refine cp_regG fun Q' hQ' => ?_)
      | (with_reducible apply CP.k_reg1; refine cp_region ?_)
      | ((with_reducible apply CP.k_cond); first | refine cp_condT rfl ?_ | refine cp_condF rfl ?_ | refine cp_cond rfl (fun hc => ?_) (fun hc => ?_))
      | refine CP.go ?_
      | (simp only [List.append_eq, List.cons_append, List.nil_append]))
  all_goals (refine RetQ.B [] ?_; (try dsimp only [resV, List.getD_cons_succ, List.getD_cons_zero]); ((refine ⟨congrArg B ?_, rfl⟩; (repeat (rename AC _ _ _ _ _ => hzz; clear hzz)); first | (simp_all; done) | (simp at *; simp_all; omega) | (rw [Bool.eq_iff_iff]; simp at *; simp_all; try omega))))
end Go.Proofs.Ytnjfchigdpifmaa

namespace Go.Proofs.Ytnjfchigdpifmaa
set_option linter.unusedVariables false
set_option linter.unusedSimpArgs false
set_option maxHeartbeats 8000000
open Go.RowKit
set_option maxRecDepth 100000
/-- a reader of the document: bytes, how many are read, why it is bad -/
structure Rf where
  b : List UInt8
  at_ : Nat
  bad : Int
/-- as the program's -/
def Rf.st (s : Rf) : Int × List UInt8 := (s.bad, if s.bad = 0 then s.b.drop s.at_ else [])
def Rf.ok (s : Rf) : Prop := s.at_ ≤ s.b.length ∧ s.b.length ≤ 100000000
end Go.Proofs.Ytnjfchigdpifmaa

namespace Go.Proofs.Ytnjfchigdpifmaa
set_option linter.unusedVariables false
set_option linter.unusedSimpArgs false
open Go.RowKit
set_option maxRecDepth 100000
def Rf.left (s : Rf) : Nat := s.b.length - s.at_
end Go.Proofs.Ytnjfchigdpifmaa

namespace Go.Proofs.Ytnjfchigdpifmaa
set_option linter.unusedVariables false
set_option linter.unusedSimpArgs false
set_option maxHeartbeats 8000000
open Go.RowKit
set_option maxRecDepth 100000
abbrev z32 : List UInt8 := List.replicate 32 0
def tagG (b : List UInt8) : List UInt8 × Bool := (b, true)
def tagR (st : Int × List UInt8) : List UInt8 × (Int × List UInt8) := takeS z32 tagG 32 st
theorem rtag1_ac (b : List UInt8) (h : b.length = 32) : AC Try.prog 63 [bs none b] [] (fun v bs' => v = .tu [tg (tagG b).1, B (tagG b).2] ∧ bs' = []) := by
  dsimp only [tagG]
  rw [ex32 h]
  refine AC.N Try.func63 Try.ntmps63 ?_
  intro X hρ hmks
  simp only [nx, Nat.reduceAdd, Nat.reduceSub, BEq.rfl]
  repeat' (first
    | ((first
    | ((with_reducible apply AP.k_any); first
            | refine AP.S ?_
            | refine AP.E ?_
            | refine AP.T ?_
            | refine AP.A ?_ | refine AP.AB 0 ?_ | refine AP.AB 1 ?_ | refine AP.AL ?_
            | refine AP.SA ?_)
    ) <;> (try simp only [nx, Nat.reduceAdd, Nat.reduceSub, BEq.rfl]))
    | ((with_reducible apply AP.k_nil); first | (refine AP.nil (hQ' _ ?_); clear hQ' Q') | refine AP.nil ?_)
    | ((with_reducible apply CP.k_reg); refine cp_regG fun Q' hQ' => ?_)
      | (with_reducible apply CP.k_reg1; refine cp_region ?_)
      | ((with_reducible apply CP.k_cond); first | refine cp_condT rfl ?_ | refine cp_condF rfl ?_ | refine cp_cond rfl (fun hc => ?_) (fun hc => ?_))
      | refine CP.go ?_
      | (simp only [List.append_eq, List.cons_append, List.nil_append]))
  (exact RetQ.A [] (by exact ⟨rfl, rfl⟩))
theorem take6_ac  (f : Nat) (g : List UInt8 → List UInt8 × Bool) (n : Int) (st : Int × List UInt8) (hst : st.2.length ≤ 100000000) (hf : ∀ b : List UInt8, b.length = n.toNat → b.length ≤ st.2.length → AC Try.prog f [bs none b] [] (fun v bs' => v = .tu [tg (g b).1, B (g b).2] ∧ bs' = [])) :
    AC Try.prog 62 [.bp 0 0 0, I n, .fn f []] [rB st] (fun v bs' => v = tg (takeS z32 g n st).1 ∧ bs' = [rB (takeS z32 g n st).2]) := by
  obtain ⟨e, b⟩ := st
  by_cases he : e = 0
  · subst he
    by_cases hn : n < 0 ∨ (b.length : Int) < n
    · have ht : takeS z32 g n (0, b) = (z32, (40, [])) := by simp only [takeS, hn]; simp
      rw [ht]
      refine AC.N Try.func62 Try.ntmps62 ?_
      intro X hρ hmks
      simp only [nx, Nat.reduceAdd, Nat.reduceSub, BEq.rfl]
      repeat' (first
        | ((first
        | ((with_reducible apply AP.k_any); first
                 | refine AP.S ?_
                 | (refine AP.Y ?_; dsimp only) | refine AP.G (fun hg => ?_) (fun hg => ?_)
          )
        | ((with_reducible apply AP.k_any); refine AP.CB [(0, 0)] 0 (fine_ac (0, b)) ?_)
            | ((with_reducible apply AP.k_any); refine AP.CB [(0, 0)] 0 (rbad_ac (0, b)) ?_)
        )
          <;> (try simp only [nx, Nat.reduceAdd, Nat.reduceSub, BEq.rfl]))
        | ((with_reducible apply AP.k_nil); first
            | (refine AP.nil (hQ' _ ?_); clear hQ' Q')
            | refine AP.nil ?_)
        | ((with_reducible apply CP.k_reg); refine cp_regG fun Q' hQ' => ?_)
          | (with_reducible apply CP.k_reg1; refine cp_region ?_)
          | ((with_reducible apply CP.k_cond); first | refine cp_condT rfl ?_ | refine cp_condF rfl ?_ | refine cp_cond rfl (fun hc => ?_) (fun hc => ?_))
          | refine CP.go ?_
          | (simp only [List.append_eq, List.cons_append, List.nil_append]))
      all_goals first
        | (exfalso; simp at *; done)
        | (exfalso; simp at *; omega)
        | (exact RetQ.A [(0, 0)] (by exact ⟨rfl, rfl⟩))
    · have hl : (b.take n.toNat).length = n.toNat := by simp; omega
      have hf' := hf (b.take n.toNat) hl (by rw [List.length_take]; exact Nat.min_le_right _ _)
      have htk : List.take (b.length - n.toNat) (List.drop n.toNat b) = List.drop n.toNat b := List.take_of_length_le (by simp)
      have hn0 : 0 ≤ n := by omega
      have hn1 : n ≤ (b.length : Int) := by omega
      have hm : n ≤ ((b.map eB).length : Int) := by simp; omega
      have ht : takeS z32 g n (0, b) = if (g (b.take n.toNat)).2 = true then ((g (b.take n.toNat)).1, (0, b.drop n.toNat)) else (z32, (40, [])) := by simp only [takeS, hn]; simp
      rw [ht]
      cases hg2 : (g (b.take n.toNat)).2 with
      | true =>
        rw [hg2] at hf'
        simp only [if_true]
        refine AC.N Try.func62 Try.ntmps62 ?_
        intro X hρ hmks
        simp only [nx, Nat.reduceAdd, Nat.reduceSub, BEq.rfl]
        repeat' (first
          | ((first
          | ((with_reducible apply AP.k_any); first
                   | refine AP.S ?_
                   | (refine AP.Y ?_; dsimp only) | refine AP.G (fun hg => ?_) (fun hg => ?_)
            )
          | ((with_reducible apply AP.k_any); refine AP.CB [(0, 0)] 0 (fine_ac (0, b)) ?_)
                | ((with_reducible apply AP.k_any); refine AP.C hf' ?_)
                | ((with_reducible apply AP.k_any); refine AP.CB [(0, 0)] 0 (rbad_ac (0, b)) ?_)
          )
            <;> (try simp only [nx, Nat.reduceAdd, Nat.reduceSub, BEq.rfl]))
          | ((with_reducible apply AP.k_nil); first
              | (refine AP.nil (hQ' _ ?_); clear hQ' Q')
              | refine AP.nil ?_)
          | ((with_reducible apply CP.k_reg); refine cp_regG fun Q' hQ' => ?_)
            | (with_reducible apply CP.k_reg1; refine cp_region ?_)
            | ((with_reducible apply CP.k_cond); first | refine cp_condT rfl ?_ | refine cp_condF rfl ?_ | refine cp_cond rfl (fun hc => ?_) (fun hc => ?_))
            | refine CP.go ?_
            | (simp only [List.append_eq, List.cons_append, List.nil_append]))
        all_goals first
          | (exfalso; simp at *; done)
          | (exfalso; simp at *; omega)
          | (simp only [htk]
             (exact RetQ.A [(0, 0)] (by exact ⟨rfl, rfl⟩)))
      | false =>
        rw [hg2] at hf'
        simp only [Bool.false_eq_true, if_false]
        refine AC.N Try.func62 Try.ntmps62 ?_
        intro X hρ hmks
        simp only [nx, Nat.reduceAdd, Nat.reduceSub, BEq.rfl]
        repeat' (first
          | ((first
          | ((with_reducible apply AP.k_any); first
                   | refine AP.S ?_
                   | (refine AP.Y ?_; dsimp only) | refine AP.G (fun hg => ?_) (fun hg => ?_)
            )
          | ((with_reducible apply AP.k_any); refine AP.CB [(0, 0)] 0 (fine_ac (0, b)) ?_)
                | ((with_reducible apply AP.k_any); refine AP.C hf' ?_)
                | ((with_reducible apply AP.k_any); refine AP.CB [(0, 0)] 0 (rbad_ac (0, b)) ?_)
          )
            <;> (try simp only [nx, Nat.reduceAdd, Nat.reduceSub, BEq.rfl]))
          | ((with_reducible apply AP.k_nil); first
              | (refine AP.nil (hQ' _ ?_); clear hQ' Q')
              | refine AP.nil ?_)
          | ((with_reducible apply CP.k_reg); refine cp_regG fun Q' hQ' => ?_)
            | (with_reducible apply CP.k_reg1; refine cp_region ?_)
            | ((with_reducible apply CP.k_cond); first | refine cp_condT rfl ?_ | refine cp_condF rfl ?_ | refine cp_cond rfl (fun hc => ?_) (fun hc => ?_))
            | refine CP.go ?_
            | (simp only [List.append_eq, List.cons_append, List.nil_append]))
        all_goals first
          | (exfalso; simp at *; done)
          | (exfalso; simp at *; omega)
          | (exact RetQ.A [(0, 0)] (by exact ⟨rfl, rfl⟩))
  · have ht : takeS z32 g n (e, b) = (z32, (e, b)) := by simp [takeS, he]
    have hb : ((e : Int) == 0) = false := by simp [he]
    rw [ht]
    refine AC.N Try.func62 Try.ntmps62 ?_
    intro X hρ hmks
    simp only [nx, Nat.reduceAdd, Nat.reduceSub, BEq.rfl]
    repeat' (first
      | ((first
      | ((with_reducible apply AP.k_any); first
               | refine AP.S ?_
               | (refine AP.Y ?_; dsimp only) | refine AP.G (fun hg => ?_) (fun hg => ?_)
        )
      | ((with_reducible apply AP.k_any); refine AP.CB [(0, 0)] 0 (fine_ac (e, b)) ?_)
      )
        <;> (try simp only [nx, Nat.reduceAdd, Nat.reduceSub, BEq.rfl]))
      | ((with_reducible apply AP.k_nil); first
          | (refine AP.nil (hQ' _ ?_); clear hQ' Q')
          | refine AP.nil ?_)
      | ((with_reducible apply CP.k_reg); refine cp_regG fun Q' hQ' => ?_)
        | (with_reducible apply CP.k_reg1; refine cp_region ?_)
        | ((with_reducible apply CP.k_cond); first | refine cp_condT rfl ?_ | refine cp_condF rfl ?_ | refine cp_cond rfl (fun hc => ?_) (fun hc => ?_))
        | refine CP.go ?_
        | (simp only [List.append_eq, List.cons_append, List.nil_append]))
    all_goals first
      | (exfalso; simp at *; done)
      | (exfalso; simp at *; omega)
      | (exact RetQ.A [(0, 0)] (by exact ⟨rfl, rfl⟩))
theorem rtag_ac (st : Int × List UInt8) (hst : st.2.length ≤ 100000000) : AC Try.prog 31 [.bp 0 0 0] [rB st] (fun v bs' => v = tg (tagR st).1 ∧ bs' = [rB (tagR st).2]) := by
  have h := take6_ac 63 tagG 32 st hst (fun b hb _ => rtag1_ac b hb)
  refine AC.N Try.func31 Try.ntmps31 ?_
  intro X hρ hmks
  simp only [nx, Nat.reduceAdd, Nat.reduceSub, BEq.rfl]
  repeat' (first
    | ((first
    | ((with_reducible apply AP.k_any); first
            | refine AP.S ?_
            | refine AP.A ?_ | refine AP.AB 0 ?_ | refine AP.AB 1 ?_ | refine AP.AL ?_
            )
    ) <;> (try simp only [nx, Nat.reduceAdd, Nat.reduceSub, BEq.rfl]))
    | ((with_reducible apply AP.k_nil); first | (refine AP.nil (hQ' _ ?_); clear hQ' Q') | refine AP.nil ?_)
    | ((with_reducible apply CP.k_reg); refine cp_regG fun Q' hQ' => ?_)
      | (with_reducible apply CP.k_reg1; refine cp_region ?_)
      | ((with_reducible apply CP.k_cond); first | refine cp_condT rfl ?_ | refine cp_condF rfl ?_ | refine cp_cond rfl (fun hc => ?_) (fun hc => ?_))
      | refine CP.go ?_
      | (simp only [List.append_eq, List.cons_append, List.nil_append]))
  (exact RetQ.A [(0, 0)] (by exact ⟨rfl, rfl⟩))
end Go.Proofs.Ytnjfchigdpifmaa

namespace Go.Proofs.Ytnjfchigdpifmaa
set_option linter.unusedVariables false
set_option linter.unusedSimpArgs false
set_option maxHeartbeats 8000000
open Go.RowKit
set_option maxRecDepth 100000
def pk0 : Pkt := ⟨0, 0, 0, 0, 0, [], z32⟩
abbrev Rw := Int × List UInt8
def r1 (st : Rw) : Rw := (intR st).2
def r2 (st : Rw) : Rw := (intR (r1 st)).2
def r3 (st : Rw) : Rw := (intR (r2 st)).2
def r4 (st : Rw) : Rw := (intR (r3 st)).2
def r5 (st : Rw) : Rw := (intR (r4 st)).2
def r6 (st : Rw) : Rw := (bytesR (r5 st)).2
def r7 (st : Rw) : Rw := (tagR (r6 st)).2
def packR (st : Rw) : Pkt := ⟨(intR st).1, (intR (r1 st)).1, (intR (r2 st)).1, (intR (r3 st)).1, (intR (r4 st)).1, (bytesR (r5 st)).1, (tagR (r6 st)).1⟩
def parseP (b : List UInt8) : Pkt × Int := if endR (r7 (newR b)) = 0 ∧ mayP (packR (newR b)) = true then (packR (newR b), 0) else (pk0, 190)
theorem newR_le' {b : List UInt8} {k : Nat} (h : b.length ≤ k) : (newR b).2.length ≤ k := by
  unfold newR
  split
  · simp
  · exact h
theorem int_le {st : Rw} {k : Nat} (h : st.2.length ≤ k) : (intR st).2.2.length ≤ k := takeS_len h
theorem bytes_le {st : Rw} {k : Nat} (h : st.2.length ≤ k) : (bytesR st).2.2.length ≤ k := takeS_len (takeS_len h)
theorem parseQ_ac (b : List UInt8) (s0 s1 s2 s3 s4 s5 s6 s7 : Rw) (a1 a2 a3 a4 a5 : Int) (a6 a7 : List UInt8) (ee : Int) (mm : Bool) (R : Pkt × Int)
    (h0 : AC Try.prog 28 [bs none b] [] (fun v bs' => v = .bp 0 0 0 ∧ bs' = [rB s0]))
    (i1 : AC Try.prog 29 [.bp 0 0 0] [rB s0] (fun v bs' => v = I a1 ∧ bs' = [rB s1]))
    (i2 : AC Try.prog 29 [.bp 0 0 0] [rB s1] (fun v bs' => v = I a2 ∧ bs' = [rB s2]))
    (i3 : AC Try.prog 29 [.bp 0 0 0] [rB s2] (fun v bs' => v = I a3 ∧ bs' = [rB s3]))
    (i4 : AC Try.prog 29 [.bp 0 0 0] [rB s3] (fun v bs' => v = I a4 ∧ bs' = [rB s4]))
    (i5 : AC Try.prog 29 [.bp 0 0 0] [rB s4] (fun v bs' => v = I a5 ∧ bs' = [rB s5]))
    (i6 : AC Try.prog 30 [.bp 0 0 0] [rB s5] (fun v bs' => v = bs none a6 ∧ bs' = [rB s6]))
    (i7 : AC Try.prog 31 [.bp 0 0 0] [rB s6] (fun v bs' => v = tg a7 ∧ bs' = [rB s7]))
    (i8 : AC Try.prog 32 [.bp 0 0 0] [rB s7] (fun v bs' => v = I ee ∧ bs' = [rB s7]))
    (i9 : AC Try.prog 16 [.ag (eP ⟨a1, a2, a3, a4, a5, a6, a7⟩)] [] (fun v bs' => v = B mm ∧ bs' = []))
    (hR : R = if ee = 0 ∧ mm = true then (⟨a1, a2, a3, a4, a5, a6, a7⟩, 0) else (pk0, 190)) :
    AC Try.prog 9 [bs none b] [] (fun v bs' => v = .tu [.ag (eP R.1), I R.2] ∧ bs' = []) := by
  by_cases hg : ee = 0 ∧ mm = true
  · rw [if_pos hg] at hR
    subst hR
    obtain ⟨rfl, rfl⟩ := hg
    refine AC.N Try.func9 Try.ntmps9 ?_
    intro X hρ hmks
    simp only [nx, Nat.reduceAdd, Nat.reduceSub, BEq.rfl]
    refine CP.gh gh_slot ?_; simp only [nx, Nat.reduceAdd, Nat.reduceSub, BEq.rfl]
    refine CP.gh gh_slot ?_; simp only [nx, Nat.reduceAdd, Nat.reduceSub, BEq.rfl]
    refine CP.gh gh_slot ?_; simp only [nx, Nat.reduceAdd, Nat.reduceSub, BEq.rfl]
    refine CP.gh gh_slot ?_; simp only [nx, Nat.reduceAdd, Nat.reduceSub, BEq.rfl]
    repeat' (first
      | ((first
      | ((with_reducible apply AP.k_any); first
              | refine AP.S ?_
              | (refine AP.Y ?_; dsimp only) | refine AP.G (fun hg => ?_) (fun hg => ?_)
              | refine AP.A ?_ | refine AP.AB 0 ?_ | refine AP.AB 1 ?_ | refine AP.AL ?_
              | ((with_reducible apply AP.k_any); refine AP.B 0 (i1) ?_)
                | ((with_reducible apply AP.k_any); refine AP.B 0 (i2) ?_)
                | ((with_reducible apply AP.k_any); refine AP.B 0 (i3) ?_)
                | ((with_reducible apply AP.k_any); refine AP.B 0 (i4) ?_))
      ) <;> (try simp only [nx, Nat.reduceAdd, Nat.reduceSub, BEq.rfl]))
      | ((with_reducible apply AP.k_nil); first | (refine AP.nil (hQ' _ ?_); clear hQ' Q') | refine AP.nil ?_)
      | ((with_reducible apply CP.k_reg); refine cp_regG fun Q' hQ' => ?_)
        | (with_reducible apply CP.k_reg1; refine cp_region ?_)
        | ((with_reducible apply CP.k_cond); first | refine cp_condT rfl ?_ | refine cp_condF rfl ?_ | refine cp_cond rfl (fun hc => ?_) (fun hc => ?_))
        | refine CP.go ?_
        | (simp only [List.append_eq, List.cons_append, List.nil_append]))
    all_goals first
      | (exact RetQ.A [] (by exact ⟨rfl, rfl⟩))
      | (exfalso; (repeat (rename AC _ _ _ _ _ => hzz; clear hzz)); simp at *; done)
  · rw [if_neg hg] at hR
    subst hR
    refine AC.N Try.func9 Try.ntmps9 ?_
    intro X hρ hmks
    simp only [nx, Nat.reduceAdd, Nat.reduceSub, BEq.rfl]
    refine CP.gh gh_slot ?_; simp only [nx, Nat.reduceAdd, Nat.reduceSub, BEq.rfl]
    refine CP.gh gh_slot ?_; simp only [nx, Nat.reduceAdd, Nat.reduceSub, BEq.rfl]
    refine CP.gh gh_slot ?_; simp only [nx, Nat.reduceAdd, Nat.reduceSub, BEq.rfl]
    refine CP.gh gh_slot ?_; simp only [nx, Nat.reduceAdd, Nat.reduceSub, BEq.rfl]
    repeat' (first
      | ((first
      | ((with_reducible apply AP.k_any); first
              | refine AP.S ?_
              | (refine AP.Y ?_; dsimp only) | refine AP.G (fun hg => ?_) (fun hg => ?_)
              | refine AP.A ?_ | refine AP.AB 0 ?_ | refine AP.AB 1 ?_ | refine AP.AL ?_
              | ((with_reducible apply AP.k_any); refine AP.B 0 (i1) ?_)
                | ((with_reducible apply AP.k_any); refine AP.B 0 (i2) ?_)
                | ((with_reducible apply AP.k_any); refine AP.B 0 (i3) ?_)
                | ((with_reducible apply AP.k_any); refine AP.B 0 (i4) ?_))
      ) <;> (try simp only [nx, Nat.reduceAdd, Nat.reduceSub, BEq.rfl]))
      | ((with_reducible apply AP.k_nil); first | (refine AP.nil (hQ' _ ?_); clear hQ' Q') | refine AP.nil ?_)
      | ((with_reducible apply CP.k_reg); refine cp_regG fun Q' hQ' => ?_)
        | (with_reducible apply CP.k_reg1; refine cp_region ?_)
        | ((with_reducible apply CP.k_cond); first | refine cp_condT rfl ?_ | refine cp_condF rfl ?_ | refine cp_cond rfl (fun hc => ?_) (fun hc => ?_))
        | refine CP.go ?_
        | (simp only [List.append_eq, List.cons_append, List.nil_append]))
    all_goals first
      | (exact RetQ.A [] (by exact ⟨rfl, rfl⟩))
      | (exfalso; (repeat (rename AC _ _ _ _ _ => hzz; clear hzz)); simp at *; simp_all; done)
theorem parseP_ac (b : List UInt8) (hb : b.length ≤ 100000000) : AC Try.prog 9 [bs none b] [] (fun v bs' => v = .tu [.ag (eP (parseP b).1), I (parseP b).2] ∧ bs' = []) := by
  have l0 := newR_le' hb
  have l1 : (r1 (newR b)).2.length ≤ 100000000 := int_le l0
  have l2 : (r2 (newR b)).2.length ≤ 100000000 := int_le l1
  have l3 : (r3 (newR b)).2.length ≤ 100000000 := int_le l2
  have l4 : (r4 (newR b)).2.length ≤ 100000000 := int_le l3
  have l5 : (r5 (newR b)).2.length ≤ 100000000 := int_le l4
  have l6 : (r6 (newR b)).2.length ≤ 100000000 := bytes_le l5
  exact parseQ_ac b _ _ _ _ _ _ _ _ _ _ _ _ _ _ _ _ _ _ (rnew_ac b hb) (rint_ac _ l0) (rint_ac _ l1) (rint_ac _ l2) (rint_ac _ l3) (rint_ac _ l4) (rbytes_ac _ l5) (rtag_ac _ l6) (rend_ac _) (mayP_ac _) rfl
end Go.Proofs.Ytnjfchigdpifmaa

namespace Go.Proofs.Ytnjfchigdpifmaa
set_option linter.unusedVariables false
set_option linter.unusedSimpArgs false
open Go.RowKit
set_option maxRecDepth 100000
theorem parseP_body (b : List UInt8) {k : Nat} (h : b.length ≤ k) : (parseP b).1.body.length ≤ k := by
  unfold parseP
  split
  · show (takeS ([] : List UInt8) bytesG _ _).1.length ≤ k
    have h5 : (r5 (newR b)).2.length ≤ k := int_le (int_le (int_le (int_le (int_le (newR_le' h)))))
    have h6 : (lenR (r5 (newR b))).2.2.length ≤ k := takeS_len h5
    unfold takeS
    split
    · simp
    · split
      · simp
      · simp only [bytesG, if_true, List.length_take]; omega
  · simp [pk0]
theorem takeS_P {α : Type} (p : α → Prop) {z : α} {f : List UInt8 → α × Bool} {n : Int} {st : Int × List UInt8} (hz : p z) (hf : ∀ b, b.length = n.toNat → p (f b).1) : p (takeS z f n st).1 := by
  unfold takeS
  split
  · exact hz
  · split
    · exact hz
    · rename_i h1 h2
      split
      · exact hf _ (by rw [List.length_take]; omega)
      · exact hz
theorem toI_le (n : Nat) : toI n ≤ 9223372036854775807 := by
  unfold toI
  simp only [IntKind.wrap, IntKind.bits, IntKind.signed]
  simp
  split <;> omega
theorem intR_le (st : Rw) : (intR st).1 ≤ 9223372036854775807 := takeS_P (fun n : Int => n ≤ 9223372036854775807) (by decide) fun b _ => toI_le _
theorem tagR_len (st : Rw) : (tagR st).1.length = 32 := takeS_P (fun l : List UInt8 => l.length = 32) (by simp) fun b h => by simpa [tagG] using h
theorem parseP_tag (b : List UInt8) : (parseP b).1.tag.length = 32 := by
  unfold parseP
  split
  · exact tagR_len _
  · simp [pk0]
theorem parseP_seqn (b : List UInt8) : (parseP b).1.seqn ≤ 9223372036854775807 := by
  unfold parseP
  split
  · exact intR_le _
  · simp [pk0]
end Go.Proofs.Ytnjfchigdpifmaa

namespace Go.Proofs.Ytnjfchigdpifmaa
set_option linter.unusedVariables false
set_option linter.unusedSimpArgs false
open Go.RowKit
set_option maxRecDepth 100000
/-- where a field of one cell lies -/
def fieldOff (P : Program) (T : TypeId) (n : Nat) : Option Nat := match P.underlying T with
  | some (.struct fs) => match fs[n]? with
    | some f => match P.underlying f.type, aggT P f.type with
      | some _, false => some f.offset
      | _, _ => none
    | none => none
  | _ => none
theorem run_fieldv {P : Program} {T : TypeId} {n off : Nat} {vs : List Value} {v : Value} (h : fieldOff P T n = some off) (hv : vs[off]? = some v) (w : World) : (Instr.field T (.agg vs.toArray) n).run P w = .ok v w := by
  unfold fieldOff at h
  split at h <;> try cases h
  rename_i fs hu
  split at h <;> try cases h
  rename_i f hf
  split at h <;> try cases h
  rename_i kd hk hA
  have hi : (isAgg f.type).run P w = .ok false w := by
    unfold aggT at hA
    rw [hk] at hA
    cases kd <;> simp at hA <;> simp [isAgg, Sem.run_bind, run_underlying hk, Result.andThen_ok]
  simp [Instr.field, Sem.run_bind, run_underlying hu, Result.andThen_ok, hf, part, hi, asAgg, hv]
theorem pq_fieldv {X : Cx} {s : AS} {o : Oper} {T : TypeId} {n off : Nat} {x : Operand} {l : List AV} {av : AV} (ho : o.op = .field T x n) (hx : aev s x = .ag l) (hf : fieldOff Try.prog T n = some off) (hl : l[off]? = some av) : Pq Try.prog X s o av := .of_run fun X φ κ f a w hs => by
  have h1 := hs.evs hx
  generalize hv : a.eval x = v at h1
  cases h1 with
  | ag hc _ =>
    obtain ⟨u, hu, hr⟩ := hc.at_ hl
    refine ⟨u, hr, fun w' _ => ?_⟩
    simp only [execOp, ho, hv, Sem.run_bind, run_fieldv hf hu w']
    simp [go_sem]
theorem AP.FV {X : Cx} {s : AS} {ops : Array Oper} {rest : List Oper} {Q : Exit → AS → Prop} {T : TypeId} {n off z : Nat} {x : Operand} {l : List AV} {av : AV} {d : Option Nat} {ty : Nat} {pos : String} {aft : Array Edge} {i : TI} {fl : List (Nat × Nat)} (K : AP Try.prog X ops Q rest (s.put d av)) (hx : aev s x = .ag l := by exact rfl) (hT : tt[T]? = some i := by exact rfl) (hk : i.kd = .st fl := by exact rfl) (hn : fl[n]? = some (off, z) := by exact rfl) (hf : fieldOff Try.prog T n = some off := by kernel_rfl) (hl : l[off]? = some av := by exact rfl) : AP Try.prog X ops Q (⟨d, .field T x n, ty, pos, aft, none⟩ :: rest) s :=
  AP.pure rfl (pq_fieldv rfl hx hf hl) K
end Go.Proofs.Ytnjfchigdpifmaa

namespace Go.Proofs.Ytnjfchigdpifmaa
set_option linter.unusedVariables false
set_option linter.unusedSimpArgs false
open Go.RowKit
set_option maxRecDepth 100000
theorem run_boundsA {n l h : Nat} {lo hi : Option Value} (hlo : lo = none ∧ l = 0 ∨ ∃ k, lo = some (.int k l)) (hhi : hi = none ∧ h = n ∨ ∃ k, hi = some (.int k h)) (h1 : l ≤ h) (h2 : h ≤ n) (w : World) :
    (Instr.sliceBounds false n n lo hi none).run Try.prog w = .ok (l, h, n) w := by
  have hb : ∀ (k : IntKind) (x y : Nat) (code : BoundsCode), x ≤ y → (Instr.sliceBound (.int k x) y code).run Try.prog w = .ok x w := by
    intro k x y code hxy
    simp [Instr.sliceBound, asIntOf, hxy, go_sem]
  rcases hhi with ⟨rfl, rfl⟩ | ⟨kh, rfl⟩ <;> rcases hlo with ⟨rfl, rfl⟩ | ⟨kl, rfl⟩
  all_goals (unfold Instr.sliceBounds; simp only [Sem.run_bind, hb _ _ _ _ h1, hb _ _ _ _ h2, Result.andThen_ok, Sem.run_pure]; first | rfl | skip)
section
variable {X : Cx} {φ φ' : Fi} {κ κ' : Ka} {f : Nat → Ct} {L L' : Ct} {s s' : AS} {a : Act} {w w' : World} {o : Oper} {ops : Array Oper} {rest : List Oper} {Q : Exit → AS → Prop} {av : AV} {d : Option Nat} {ty : Nat} {pos : String} {aft : Array Edge}
theorem run_slice_arr {T e N l h g off : Nat} {i ie : TI} {lo hi : Option Value} (hT : tt[T]? = some i) (hk : i.kd = .ar N e) (he : tt[e]? = some ie) (hb : ∀ w, (Instr.sliceBounds false N N lo hi none).run Try.prog w = .ok (l, h, N) w) (hlN : l = 0 ∨ l < N) (w : World) :
    (Instr.sliceAt T (.pointer (some ⟨g, off, none⟩)) lo hi none).run Try.prog w = .ok (.slice (some ⟨g, off + l * ie.size, none⟩) (h - l) (N - l)) w := by
  have hu := ty_ar hT hk
  have hadd : (if N = l then (⟨g, off, none⟩ : Addr) else (⟨g, off, none⟩ : Addr).add (l * ie.size)) = ⟨g, off + l * ie.size, none⟩ := by
    rcases hlN with rfl | hlN
    · split <;> simp [Addr.add]
    · rw [if_neg (by omega)]
      simp only [Addr.add]; split <;> simp_all
  simp only [Instr.sliceAt, Sem.run_bind, run_underlying hu, Result.andThen_ok, Instr.sureAddr, Sem.run_pure, hb, ty_size he, hadd]
theorem pq_slice_arr {T e N l h b u off : Nat} {x : Operand} {lo hi : Option Operand} {i ie : TI} (ho : o.op = .slice T x lo hi none) (hx : aev s x = .bp b u off) (hT : tt[T]? = some i) (hk : i.kd = .ar N e) (he : tt[e]? = some ie)
    (hlo : Bd s lo 0 l) (hhi : Bd s hi N h) (h1 : l ≤ h) (h2 : h ≤ N) (hN : N ≤ 1000000) (hlN : l = 0 ∨ l < N) : Pq Try.prog X s o (.sb b u ie.size (off + l * ie.size) (h - l) (N - l)) := .of_run fun X φ κ f a w hs => by
  have hv := hs.evs hx
  generalize hp : a.eval x = v at hv
  cases hv with
  | @bp _ _ _ g hg =>
    have hb := fun w => run_boundsA (n := N) (l := l) (h := h) (lo := lo.map a.eval) (hi := hi.map a.eval) (by simpa using Bd.lo (h0 := hs) hlo) (Bd.lo (h0 := hs) hhi) h1 h2 w
    refine ⟨_, .sb hg (by omega) (by unfold maxLen; omega), fun w' _ => ?_⟩
    have := run_slice_arr (g := g) (off := off) hT hk he hb hlN w'
    simp only [execOp, ho, hp, Option.map_none, Sem.run_bind, this]; rfl
theorem AP.SV {T e N : Nat} {x : Operand} {lo hi : Option Operand} {l h : Int} {b u off : Nat} {i ie : TI} (K : AP Try.prog X ops Q rest (s.put d (.sb b u ie.size (off + l.toNat * ie.size) (h.toNat - l.toNat) (N - l.toNat)))) (hx : aev s x = .bp b u off := by exact rfl) (hT : tt[T]? = some i := by exact rfl) (hk : i.kd = .ar N e := by exact rfl) (he : tt[e]? = some ie := by exact rfl)
    (hl : bdv s 0 lo = some l := by exact rfl) (hh : bdv s N hi = some h := by exact rfl) (hp : 0 ≤ l ∧ l ≤ h ∧ h ≤ N ∧ l < N ∧ N ≤ 1000000 := by ((repeat' (with_reducible apply And.intro)) <;> (first | exact True.intro | exact rfl | omega | decide | (simp; omega) | (simp; done) | assumption | exact .inl rfl | (refine .inr ?_; simp; try omega)))) : AP Try.prog X ops Q (⟨d, .slice T x lo hi none, ty, pos, aft, none⟩ :: rest) s :=
  AP.pure rfl (pq_slice_arr rfl hx hT hk he (bd_of (d := 0) hl hp.1) (bd_of hh (by omega)) (by omega) (by omega) hp.2.2.2.2 (.inr (by omega))) K
/-- a variable of one's own becomes what may be read -/
theorem SatW.frzC (h : SatW X φ κ f L s a w) {j u : Nat} {T : TypeId} {l : List AV} (hj : s.b[j]? = some ⟨u, .c T l⟩) :
    ∃ X' g vs, X.le X' ∧ φ j u = some g ∧ w.heap[g]? = some (.cells vs.toArray T (0, 0)) ∧ X'.R g ∧ RC w φ κ X'.R l vs Ct.z ∧ (∀ v ∈ vs, v.oneCell' = true) ∧ SatW X' φ κ (updF f j Ct.z) L ⟨s.t, s.b.set j ⟨u, .x⟩⟩ a w := by
  obtain ⟨hrs, ht⟩ := h.take hj .x fun _ _ => .x
  generalize hF : f j = F at hrs ht
  cases hrs with
  | @c _ _ vs g _ hφ hh hc h1 hS =>
    have hgr : ∀ x, F x ≠ 0 → x < w.heap.size ∧ (X.S0 x ≠ 0 ∨ X.w0.heap.size ≤ x) ∧ sumF (updF f j Ct.z) (s.b.set j ⟨u, .x⟩).length x + L x = 0 := fun x hx => by
      have h1 := ht.own x (by dsimp only; omega)
      have h2 := ht.one x
      dsimp only at h2
      exact ⟨h1.1, h1.2, by omega⟩
    refine ⟨X.gr (fun x => X.R x ∨ F x ≠ 0), g, vs, Cx.le_gr (fun x hx => .inl hx) (fun x hx => hx.imp id fun h0 => (hgr x h0).2.1), hφ, hh, .inr (by rw [hS]; simp), RC.hist (fun _ _ _ h => h) (fun _ _ _ h => h) (fun _ h => .inl h) hc, h1, ?_⟩
    refine SatW.grow (ht.drop fun x => by (try dsimp only); omega) (fun x hx => .inl hx) (fun x hx => ?_) (fun x hx => hx.imp id fun h0 => (hgr x h0).2.1)
    rcases hx with hx | hx
    · have := ht.rd x hx; dsimp only at this ⊢; exact ⟨this.1, by omega⟩
    · exact ⟨(hgr x hx).1, (hgr x hx).2.2⟩
theorem RC.ones {R : Nat → Prop} : ∀ {l : List AV} {vs : List Value}, RC w φ κ R l vs Ct.z → (∀ v ∈ vs, v.oneCell' = true) → (∀ x ∈ l, x.leaf = true) → RE w φ κ R 1 (l.map fun a => [a]) vs Ct.z
  | _, _, .nil, _, _ => .nil
  | _, _, .cons (a := a) (v := v) h1 h2 h3, ho, hl => by
    obtain ⟨rfl, rfl⟩ := Ct.split h3
    exact .cons (S := Ct.z) (T := Ct.z) (us := [v]) (.cons (S := Ct.z) (T := Ct.z) h1 .nil fun _ => rfl) rfl ⟨fun u hu => ho u (by simp at hu; simp [hu]), fun x hx => hl x (by simp at hx; simp [hx])⟩ (RC.ones h2 (fun v hv => ho v (by simp [hv])) fun x hx => hl x (by simp [hx])) fun _ => rfl
/-- a whole array, as a slice that may be read; the variable is of no more use -/
theorem AP.SF {T T' e N : Nat} {x : Operand} {b u d' : Nat} {i ie : TI} {l : List AV} (K : AP Try.prog X ops Q rest ⟨s.t.set d' (.sl none 1 (l.map fun a => [a])), s.b.set b ⟨u, .x⟩⟩) (hx : aev s x = .bp b u 0 := by exact rfl) (hs : s.b[b]? = some ⟨u, .c T' l⟩ := by exact rfl) (hT : tt[T]? = some i := by exact rfl) (hk : i.kd = .ar N e := by exact rfl) (he : tt[e]? = some ie := by exact rfl)
    (hsz : Nat.beq ie.size 1 = true := by exact rfl) (hl : Nat.beq l.length N = true := by first | exact rfl | (rw [Nat.beq_eq_true_eq]; simp; done) | (rw [Nat.beq_eq_true_eq]; simp; omega)) (hN : Nat.ble N 1000000 = true := by exact rfl) (hlf : ∀ x ∈ l, x.leaf = true := by first | exact List.all_eq_true.1 rfl | (intro x hx; simp at hx; obtain ⟨y, _, rfl⟩ := hx; rfl)) : AP Try.prog X ops Q (⟨some d', .slice T x none none none, ty, pos, aft, none⟩ :: rest) s :=
  .runG rfl (fun X φ κ f a w h => by
    have hsz := Nat.eq_of_beq_eq_true hsz
    have hl := Nat.eq_of_beq_eq_true hl
    have hN := Nat.le_of_ble_eq_true hN
    obtain ⟨X1, g, vs, hX1, hφ, hh, hRg, hc, h1, h2⟩ := h.frzC hs
    have hv := h.evs hx
    generalize hp : a.eval x = v at hv
    cases hv with
    | bp hg =>
      rw [hφ] at hg; injection hg with hg; subst hg
      have hb := fun w => run_boundsA (n := N) (l := 0) (h := N) (lo := none) (hi := none) (.inl ⟨rfl, rfl⟩) (.inl ⟨rfl, rfl⟩) (Nat.zero_le _) (Nat.le_refl _) w
      have hrun := run_slice_arr (g := g) (off := 0) hT hk he hb (.inl rfl) w
      have hlen : (l.map fun a => [a]).length = N := by simp [hl]
      have hrv : RV w φ κ X1.R (.sl none 1 (l.map fun a => [a])) (.slice (some ⟨g, 0, none⟩) (l.map fun a => [a]).length N) Ct.z := .ro (RC.ones hc h1 hlf) (by omega) (by unfold maxLen; omega) (fun _ => hRg) fun j u hj => by
        rw [cell_of_row w g (0 + j) vs.toArray T' (0, 0) hh]; simpa using hj
      rw [hlen] at hrv
      refine ⟨X1, _, w, φ, κ, _, hX1, ?_, h2.puts (some d') hrv⟩
      simp only [execOp, hp, Option.map_none, Sem.run_bind, hrun]
      simp [go_sem]) K
/-- a variable's cells become others -/
theorem SatW.rebox (h : SatW X φ κ f Ct.z s a w) {b u g : Nat} {T' : TypeId} {l l' : List AV} {vs vs' : List Value} (hs : s.b[b]? = some ⟨u, .c T' l⟩) (hφ : φ b u = some g) (hh : w.heap[g]? = some (.cells vs.toArray T' (0, 0))) (hrc : RC w φ κ X.R l' vs' Ct.z) (h1 : ∀ v ∈ vs', v.oneCell' = true) :
    ∃ f', SatW X φ κ f' Ct.z ⟨s.t, s.b.set b ⟨u, .c T' l'⟩⟩ a (w.setRow g vs'.toArray) := by
  have hS := h.sl b _ hs
  have hb : b < s.b.length := (List.getElem?_eq_some_iff.1 hs).1
  have hf : ∀ x, f b x = if x = g then 1 else 0 := by
    generalize f b = F at hS
    cases hS with
    | c hφ' _ _ _ hSx => rw [hφ] at hφ'; injection hφ' with e; subst e; exact hSx
  have hgl : g < w.heap.size := (Array.getElem?_eq_some_iff.1 hh).1
  refine ⟨updF f b (fun x => if x = g then 1 else 0), ?_⟩
  refine h.turn (w' := w.setRow g vs'.toArray) hs (fun _ _ _ h => h) (fun _ _ _ h => h) (by simp [World.setRow]) rfl rfl rfl ?_ ?_ (g := fun x => if x = g then 1 else 0) (L' := Ct.z) ?_ ?_ (Nat.le_refl _) (fun _ _ _ h => h) (fun _ _ _ h => h)
  · intro x hx h0
    have := hf x
    have hne : x ≠ g := by rintro rfl; simp at this; omega
    exact setRow_other w g x _ hne
  · have hR : ∀ x, X.R x → (w.setRow g vs'.toArray).heap[x]? = w.heap[x]? := fun x hx => by
      have h3 := h.not_rd hx
      have h4 := sumF_le f x _ b hb
      have h5 := hf x
      have hne : x ≠ g := by rintro rfl; simp at h5; omega
      exact setRow_other w g x _ hne
    exact .c hφ (setRow_heap w g _ vs'.toArray T' _ hh) (RC.keep hR hrc fun x hx => absurd rfl hx) h1 fun _ => rfl
  · intro x hx; have := hf x; simp only [Ct.z]; omega
  · intro x hx; simp only [Ct.z]; split
    · omega
    · simp
/-- cells over others -/
def cpy {α : Type} (l : List α) (o : Nat) (r : List α) : List α := l.take o ++ r ++ l.drop (o + r.length)
theorem RC.take_ {R : Nat → Prop} {l : List AV} {us : List Value} (h : RC w φ κ R l us Ct.z) (m : Nat) : RC w φ κ R (l.take m) (us.take m) Ct.z := by simpa using h.drop_ 0 m
theorem RC.dropA {R : Nat → Prop} {l : List AV} {us : List Value} (h : RC w φ κ R l us Ct.z) (n : Nat) : RC w φ κ R (l.drop n) (us.drop n) Ct.z := by
  have := h.drop_ n l.length
  rwa [List.take_of_length_le (by simp), List.take_of_length_le (by simp [h.length])] at this
theorem RC.cpy {R : Nat → Prop} {l r : List AV} {us vs : List Value} (h : RC w φ κ R l us Ct.z) (k : RC w φ κ R r vs Ct.z) (o : Nat) : RC w φ κ R (cpy l o r) (cpy us o vs) Ct.z := by
  unfold Go.Proofs.Ytnjfchigdpifmaa.cpy
  rw [k.length]
  exact ((h.take_ o).append k (fun _ => rfl)).append (h.dropA _) (fun _ => rfl)
theorem cpy_one {us vs : List Value} (o : Nat) (h : ∀ v ∈ us, v.oneCell' = true) (k : ∀ v ∈ vs, v.oneCell' = true) : ∀ v ∈ cpy us o vs, v.oneCell' = true := fun v hv => by
  unfold cpy at hv
  rcases List.mem_append.1 hv with hv | hv
  · rcases List.mem_append.1 hv with hv | hv
    · exact h v (List.mem_of_mem_take hv)
    · exact k v hv
  · exact h v (List.mem_of_mem_drop hv)
/-- copy into a variable's cells -/
theorem ap_copyv {T T1 T' e : Nat} {x y : Operand} {b u off n c : Nat} {l : List AV} {r : List AV} {i ie : TI} {sl : Nat} (hg : o.guard = none) (ho : o.op = .call { callee := .builtin .copy, args := #[x, y], argTypes := #[T, T1] }) (hx : aev s x = .sb b u 1 off n c) (hs : s.b[b]? = some ⟨u, .c T' l⟩) (hT : tt[T]? = some i) (hk : i.kd = .sl e) (he : tt[e]? = some ie) (hsz : ie.size = 1)
    (hfit : off + n ≤ l.length)
    (hsrc : ∀ X φ κ f a w, SatW X φ κ f Ct.z s a w → ∃ A cs sc, a.eval y = .slice (some A) sl sc ∧ RC w φ κ X.R r cs Ct.z ∧ cs.length = min sl n ∧ (∀ v ∈ cs, v.oneCell' = true) ∧ ∀ j v, cs[j]? = some v → w.cell? (A.add j) = some v)
    (K : AP Try.prog X ops Q rest (AS.put ⟨s.t, s.b.set b ⟨u, .c T' (cpy l off r)⟩⟩ o.dst (.sc (.int .i64 ((min sl n : Nat) : Int))))) : AP Try.prog X ops Q (o :: rest) s :=
  .run hg (fun X φ κ f a w h => by
    obtain ⟨A, cs, sc, hy, hrc, hr, h1, hcell⟩ := hsrc X φ κ f a w h
    have hcl := hrc.length
    have hv := h.evs hx
    have hS := h.sl b _ hs
    generalize hp : a.eval x = v at hv
    cases hv with
    | @sb _ _ _ _ _ _ g hφ hnc _ =>
      obtain ⟨vs, hh, hvc, hv1⟩ : ∃ vs : List Value, w.heap[g]? = some (.cells vs.toArray T' (0, 0)) ∧ RC w φ κ X.R l vs Ct.z ∧ ∀ v ∈ vs, v.oneCell' = true := by
        generalize f b = F at hS
        cases hS with
        | c hφ' hh hc ho _ => rw [hφ] at hφ'; injection hφ' with e; subst e; exact ⟨_, hh, hc, ho⟩
      have hvl := hvc.length
      obtain ⟨dd, j, hd, hj, _, hjs, _⟩ := TI.parts (ty he)
      have hrun := run_copy_row (P := Try.prog) w T T1 o.type e g off n c A sl sc vs.toArray T' cs (ty_sl hT hk) (by rw [hj]; simp [hjs, hsz]) hh hr hcell (by simp; omega) h1
      obtain ⟨f', h2⟩ := h.rebox hs hφ hh (hvc.cpy hrc off) (cpy_one off hv1 h1)
      have e1 : (vs.toArray.toList.take off ++ cs ++ vs.toArray.toList.drop (off + cs.length)).toArray = (cpy vs off cs).toArray := by simp [cpy]
      rw [e1] at hrun
      refine ⟨_, _, φ, κ, f', ?_, h2.puts o.dst (av := .sc (.int .i64 ((min sl n : Nat) : Int))) (v := goInt cs.length) (by rw [hr]; exact .sc rfl)⟩
      have hm : (#[x, y] : Array Operand).map a.eval = #[.slice (some ⟨g, off, none⟩) n c, .slice (some A) sl sc] := by simp [hp, hy]
      simp only [execOp, ho, resolve, Sem.run_bind, Sem.run_pure, Result.andThen_ok, invoke, hm]
      show Sem.run Try.prog ((do pure (.value (← Builtin.copy_ #[T, T1] o.type #[.slice (some ⟨g, off, none⟩) n c, .slice (some A) sl sc])) : Sem Next)) w = _
      simp only [Sem.run_bind, hrun, Result.andThen_ok, Sem.run_pure]) K
theorem RE.flat1 {R : Nat → Prop} : ∀ {r : List (List AV)} {us : List Value}, RE w φ κ R 1 r us Ct.z → RC w φ κ R r.flatten us Ct.z ∧ (∀ v ∈ us, v.oneCell' = true) ∧ us.length = r.length
  | _, _, .nil => ⟨.nil, (fun _ h => by cases h), rfl⟩
  | _, _, .cons h1 h2 h3 h4 h5 => by
    obtain ⟨rfl, rfl⟩ := Ct.split h5
    obtain ⟨a, b, c⟩ := RE.flat1 h4
    exact ⟨by rw [List.flatten_cons]; exact h1.append a fun _ => rfl, fun v hv => (List.mem_append.1 hv).elim (h3.1 v) (b v), by simp [h2, c]; omega⟩
theorem RE.take_ {R : Nat → Prop} : ∀ {r : List (List AV)} {us : List Value} (m : Nat), RE w φ κ R 1 r us Ct.z → RE w φ κ R 1 (r.take m) (us.take m) Ct.z
  | _, _, 0, _ => by simpa using .nil
  | _, _, m + 1, .nil => .nil
  | _, _, m + 1, .cons (us := us) (vs := vs) h1 h2 h3 h4 h5 => by
    obtain ⟨rfl, rfl⟩ := Ct.split h5
    have e : (us ++ vs).take (m + 1) = us ++ vs.take m := by
      rw [List.take_append, h2, List.take_of_length_le (by omega)]; rfl
    rw [e]
    exact .cons (S := Ct.z) (T := Ct.z) h1 h2 h3 (RE.take_ m h4) fun _ => rfl
/-- from a slice that may be read -/
theorem AP.CV {T T1 T' e : Nat} {x y : Operand} {b u off n c : Nat} {l : List AV} {rows : List (List AV)} {i ie : TI} (K : AP Try.prog X ops Q rest (AS.put ⟨s.t, s.b.set b ⟨u, .c T' (cpy l off (rows.take (min rows.length n)).flatten)⟩⟩ o.dst (.sc (.int .i64 ((min rows.length n : Nat) : Int))))) (hg : o.guard = none := by exact rfl) (ho : o.op = .call { callee := .builtin .copy, args := #[x, y], argTypes := #[T, T1] } := by exact rfl)
    (hx : aev s x = .sb b u 1 off n c := by exact rfl) (hy : aev s y = .sl none 1 rows := by exact rfl) (hs : s.b[b]? = some ⟨u, .c T' l⟩ := by exact rfl) (hT : tt[T]? = some i := by exact rfl) (hk : i.kd = .sl e := by exact rfl) (he : tt[e]? = some ie := by exact rfl) (hsz : Nat.beq ie.size 1 = true := by exact rfl)
    (hp : off + n ≤ l.length ∧ 0 < rows.length := by ((repeat' (with_reducible apply And.intro)) <;> (first | exact True.intro | exact rfl | omega | decide | (simp; omega) | (simp; done) | assumption | exact .inl rfl | (refine .inr ?_; simp; try omega)))) : AP Try.prog X ops Q (o :: rest) s :=
  ap_copyv hg ho hx hs hT hk he (Nat.eq_of_beq_eq_true hsz) hp.1 (fun X φ κ f a w h => by
    have h1 := h.evs hy
    have hp := hp
    generalize hp' : a.eval y = p at h1
    cases h1 with
    | ni => simp at hp
    | ne => simp at hp
    | @ro _ _ g o' c' us hre hle hm hR hc =>
      obtain ⟨a1, a2, a3⟩ := RE.flat1 (RE.take_ (min rows.length n) hre)
      refine ⟨_, _, c', rfl, a1, by rw [a3]; simp, a2, fun j v hj => ?_⟩
      rw [List.getElem?_take] at hj
      split at hj
      · have := hc j v hj
        rwa [show (⟨g, o', none⟩ : Addr).add j = ⟨g, o' + j, none⟩ by unfold Addr.add; split <;> simp_all]
      · cases hj) K
/-- from cells of the same variable -/
theorem AP.CO {T T1 T' e : Nat} {x y : Operand} {b u off n c off' n' c' : Nat} {l : List AV} {i ie : TI} (K : AP Try.prog X ops Q rest (AS.put ⟨s.t, s.b.set b ⟨u, .c T' (cpy l off ((l.drop off').take (min n' n)))⟩⟩ o.dst (.sc (.int .i64 ((min n' n : Nat) : Int))))) (hg : o.guard = none := by exact rfl) (ho : o.op = .call { callee := .builtin .copy, args := #[x, y], argTypes := #[T, T1] } := by exact rfl)
    (hx : aev s x = .sb b u 1 off n c := by exact rfl) (hy : aev s y = .sb b u 1 off' n' c' := by exact rfl) (hs : s.b[b]? = some ⟨u, .c T' l⟩ := by exact rfl) (hT : tt[T]? = some i := by exact rfl) (hk : i.kd = .sl e := by exact rfl) (he : tt[e]? = some ie := by exact rfl) (hsz : Nat.beq ie.size 1 = true := by exact rfl)
    (hp : off + n ≤ l.length ∧ off' + n' ≤ l.length := by ((repeat' (with_reducible apply And.intro)) <;> (first | exact True.intro | exact rfl | omega | decide | (simp; omega) | (simp; done) | assumption | exact .inl rfl | (refine .inr ?_; simp; try omega)))) : AP Try.prog X ops Q (o :: rest) s :=
  ap_copyv (sl := n') hg ho hx hs hT hk he (Nat.eq_of_beq_eq_true hsz) hp.1 (fun X φ κ f a w h => by
    have hv := h.evs hy
    have hS := h.sl b _ hs
    generalize hp' : a.eval y = p at hv
    cases hv with
    | @sb _ _ _ _ _ _ g hφ hnc _ =>
      obtain ⟨vs, hh, hvc, hv1⟩ : ∃ vs : List Value, w.heap[g]? = some (.cells vs.toArray T' (0, 0)) ∧ RC w φ κ X.R l vs Ct.z ∧ ∀ v ∈ vs, v.oneCell' = true := by
        generalize f b = F at hS
        cases hS with
        | c hφ' hh hc ho _ => rw [hφ] at hφ'; injection hφ' with e; subst e; exact ⟨_, hh, hc, ho⟩
      have hvl := hvc.length
      refine ⟨_, (vs.drop off').take (min n' n), c', rfl, hvc.drop_ off' _, by simp; omega, fun v hv => hv1 v (List.mem_of_mem_drop (List.mem_of_mem_take hv)), fun j v hj => ?_⟩
      rw [List.getElem?_take] at hj
      split at hj
      · rw [List.getElem?_drop] at hj
        rw [show (⟨g, off', none⟩ : Addr).add j = ⟨g, off' + j, none⟩ by unfold Addr.add; split <;> simp_all]
        rw [cell_of_row w g (off' + j) vs.toArray T' (0, 0) hh]; simpa using hj
      · cases hj) K
/-- a part of an array's value -/
theorem run_indexv {T N e : Nat} {i : TI} {k : IntKind} {j : Int} {vs : List Value} {v : Value} (hT : tt[T]? = some i) (hk : i.kd = .ar N e) {ie : TI} (he : tt[e]? = some ie) (hsz : ie.size = 1) (hrow : rowK ie.kd = false) (h0 : 0 ≤ j) (hj : j < N) (hv : vs[j.toNat]? = some v) (w : World) : (Instr.index T (.agg vs.toArray) (.int k j)).run Try.prog w = .ok v w := by
  obtain ⟨d, hd, hr, _⟩ := ty_flat he hrow
  have hagg : (isAgg e).run Try.prog w = .ok false w := by
    unfold isAgg
    rw [Sem.run_bind, run_underlying hd w]
    cases d <;> first | rfl | (simp [TypeDesc.isRow] at hr; done)
  have hsize := ty_size he w
  simp [Instr.index, asIntOf, Sem.run_bind, run_underlying (ty_ar hT hk), Result.andThen_ok, h0, hj, hsize, hsz, part, hagg, asAgg, hv, go_sem]
theorem AP.IX {T N e : Nat} {x y : Operand} {l : List AV} {k : IntKind} {j : Int} {i ie : TI} (K : AP Try.prog X ops Q rest (s.put d av)) (hx : aev s x = .ag l := by exact rfl) (hy : aev s y = .sc (.int k j) := by exact rfl) (hT : tt[T]? = some i := by exact rfl) (hk : i.kd = .ar N e := by exact rfl) (he : tt[e]? = some ie := by exact rfl) (hsz : Nat.beq ie.size 1 = true := by exact rfl) (hrow : rowK ie.kd = false := by exact rfl)
    (hl : l[j.toNat]? = some av := by first | assumption | exact mapAt (by (first | omega | (simp; omega) | (simp; done) | assumption)) | exact rfl) (hp : 0 ≤ j ∧ j < N := by ((repeat' (with_reducible apply And.intro)) <;> (first | exact True.intro | exact rfl | omega | decide | (simp; omega) | (simp; done) | assumption | exact .inl rfl | (refine .inr ?_; simp; try omega)))) : AP Try.prog X ops Q (⟨d, .index T x y, ty, pos, aft, none⟩ :: rest) s :=
  AP.pure rfl (.of_run fun X φ κ f a w h => by
    have h1 := h.evs hx
    have h2 := h.evc hy
    generalize hp' : a.eval x = p at h1
    cases h1 with
    | ag hc _ =>
      obtain ⟨v, hv, hr⟩ := hc.at_ hl
      refine ⟨v, hr, fun w' _ => ?_⟩
      have := run_indexv hT hk he (Nat.eq_of_beq_eq_true hsz) hrow hp.1 hp.2 hv (k := k) w'
      simp only [execOp, hp', h2, Sem.run_bind, this]
      simp [go_sem]) K
end
/-! in drawn regions -/
section
variable {s : AS} {ops : Array Oper} {all : List Oper} {K : AS → Prop} {acc : List Fp} {l : List Oper} {av : AV} {op : Op} {ty : Nat} {pos : String} {aft : Array Edge} {g : Option (Nat × Bool)} {d : Nat} {T : List Nat} {F : List Nat} {b2 : List Sl} {r : Bool}
theorem DW.RX (hk : DW Try.prog ops all K (⟨T, some d, F, false⟩ :: acc) l ⟨s.t.set d av, s.b⟩) (hg : gdS ops s g = some r := by exact rfl) (hT : opTs ops ⟨some d, op, ty, pos, aft, g⟩ = T := by (simp only [ft, nm, Nat.reduceAdd, Nat.reduceBEq, List.getElem?_cons_zero, List.getElem?_cons_succ]; exact rfl)) (hF : ftF 0 s op = F := by (simp only [ft, nm, Nat.reduceAdd, Nat.reduceBEq, List.getElem?_cons_zero, List.getElem?_cons_succ]; exact rfl)) (h : ∀ X V, AP Try.prog X ops (fun e s' => e = .normal ∧ s' = ⟨(msT T 0 s.t).set d av, msB F V 0 s.b⟩) [⟨some d, op, ty, pos, aft, g⟩] ⟨msT T 0 s.t, msB F V 0 s.b⟩ := by (intro X V; simp only [ft, nm, Nat.reduceAdd, Nat.reduceBEq]; (try (refine AP.Y ?_; dsimp only)); (first | refine AP.LB ?_ | refine AP.IX ?_ | refine AP.SV ?_ | refine AP.FV ?_); (try simp only [nx, Nat.reduceAdd, Nat.reduceSub, BEq.rfl]); refine AP.nil ?_; first | exact ⟨trivial, rfl⟩ | exact ⟨rfl, rfl⟩)) (hy : nyF F 0 s.b = true := by exact rfl) :
    DW Try.prog ops all K acc (⟨some d, op, ty, pos, aft, g⟩ :: l) s := DW.rd 0 hT hF h hk hy
theorem DW.WX (hk : DW Try.prog ops all K (⟨T, some d, F, true⟩ :: acc) l ⟨s.t.set d av, b2⟩) (hg : gdS ops s g = some r := by exact rfl) (hT : opTs ops ⟨some d, op, ty, pos, aft, g⟩ = T := by (simp only [ft, nm, Nat.reduceAdd, Nat.reduceBEq, List.getElem?_cons_zero, List.getElem?_cons_succ]; exact rfl)) (hF : ftF 1 s op = F := by (simp only [ft, nm, Nat.reduceAdd, Nat.reduceBEq, List.getElem?_cons_zero, List.getElem?_cons_succ]; exact rfl)) (h : ∀ X V, AP Try.prog X ops (fun e s' => e = .normal ∧ s'.t = (msT T 0 s.t).set d av ∧ Mg F V 0 s.b s'.b b2) [⟨some d, op, ty, pos, aft, g⟩] ⟨msT T 0 s.t, msB F V 0 s.b⟩ := by (intro X V; simp only [ft, nm, Nat.reduceAdd, Nat.reduceBEq]; (try (refine AP.Y ?_; dsimp only)); (first | refine AP.SF ?_ | refine AP.CV ?_ | refine AP.CO ?_); (try simp only [nx, Nat.reduceAdd, Nat.reduceSub, BEq.rfl]); refine AP.nil ?_; (first | refine ⟨trivial, rfl, ?_⟩ | refine ⟨rfl, rfl, ?_⟩); (repeat' (first | exact Mg.nil | apply Mg.keep rfl | apply Mg.take rfl)); all_goals fail))
    (hb : (∃ V : Nat → Nat, ∃ b1, Mg F V 0 s.b b1 b2) := by (refine Exists.intro (fun _ => 0) ?_; apply Exists.intro; (repeat' (first | exact Mg.nil | apply Mg.keep rfl | apply Mg.take rfl)); all_goals fail)) (hy : nyF F 0 s.b = true := by exact rfl) (hy2 : nyF F 0 b2 = true := by exact rfl) : DW Try.prog ops all K acc (⟨some d, op, ty, pos, aft, g⟩ :: l) s := DW.st 1 hT hF h hb hk hy hy2
theorem DW.WX' (hk : DW Try.prog ops all K (⟨T, none, F, true⟩ :: acc) l ⟨s.t, b2⟩) (hg : gdS ops s g = some r := by exact rfl) (hT : opTs ops ⟨none, op, ty, pos, aft, g⟩ = T := by (simp only [ft, nm, Nat.reduceAdd, Nat.reduceBEq, List.getElem?_cons_zero, List.getElem?_cons_succ]; exact rfl)) (hF : ftF 1 s op = F := by (simp only [ft, nm, Nat.reduceAdd, Nat.reduceBEq, List.getElem?_cons_zero, List.getElem?_cons_succ]; exact rfl)) (h : ∀ X V, AP Try.prog X ops (fun e s' => e = .normal ∧ s'.t = msT T 0 s.t ∧ Mg F V 0 s.b s'.b b2) [⟨none, op, ty, pos, aft, g⟩] ⟨msT T 0 s.t, msB F V 0 s.b⟩ := by (intro X V; simp only [ft, nm, Nat.reduceAdd, Nat.reduceBEq]; (try (refine AP.Y ?_; dsimp only)); (first | refine AP.TB ?_); (try simp only [nx, Nat.reduceAdd, Nat.reduceSub, BEq.rfl]); refine AP.nil ?_; (first | refine ⟨trivial, rfl, ?_⟩ | refine ⟨rfl, rfl, ?_⟩); (repeat' (first | exact Mg.nil | apply Mg.keep rfl | apply Mg.take rfl)); all_goals fail))
    (hb : (∃ V : Nat → Nat, ∃ b1, Mg F V 0 s.b b1 b2) := by (refine Exists.intro (fun _ => 0) ?_; apply Exists.intro; (repeat' (first | exact Mg.nil | apply Mg.keep rfl | apply Mg.take rfl)); all_goals fail)) (hy : nyF F 0 s.b = true := by exact rfl) (hy2 : nyF F 0 b2 = true := by exact rfl) : DW Try.prog ops all K acc (⟨none, op, ty, pos, aft, g⟩ :: l) s := DW.stN 1 hT hF h hb hk hy hy2
end
end Go.Proofs.Ytnjfchigdpifmaa

namespace Go.Proofs.Ytnjfchigdpifmaa
set_option linter.unusedVariables false
set_option linter.unusedSimpArgs false
open Go.RowKit
set_option maxRecDepth 100000
mutual
def fzv (b u k : Nat) (s0 : List (List AV)) : AV → AV
  | .hd b' u' => match b' == b && u' == u with
    | true => .sl none k s0
    | false => .hd b' u'
  | .ag l => .ag (fzc b u k s0 l)
  | .sc v => .sc v
  | .sl o k' s => .sl o k' s
  | .bp b' u' o => .bp b' u' o
  | .ep b' u' k' i o => .ep b' u' k' i o
  | .rp k' s i o => .rp k' s i o
  | .tu l => .tu l
  | .gd p a => .gd p a
  | .fs k' s => .fs k' s
  | .fn f c => .fn f c
  | .hf b' u' => .hf b' u'
  | .sb b' u' k' o n c => .sb b' u' k' o n c
  | .de => .de
  | .ob T l => .ob T l
  | .mo ks s => .mo ks s
def fzc (b u k : Nat) (s0 : List (List AV)) : List AV → List AV
  | [] => []
  | a :: l => fzv b u k s0 a :: fzc b u k s0 l
end
mutual
theorem fzv_rel (b u k : Nat) (s0 : List (List AV)) : ∀ a : AV, FzV b u k s0 a (fzv b u k s0 a)
  | .hd b' u' => by
    unfold fzv
    split
    · rename_i h1
      rw [Bool.and_eq_true] at h1
      obtain rfl := eq_of_beq h1.1
      obtain rfl := eq_of_beq h1.2
      exact .hd
    · exact .same
  | .ag l => .ag (fzc_rel b u k s0 l)
  | .sc _ => .same
  | .sl _ _ _ => .same
  | .bp _ _ _ => .same
  | .ep _ _ _ _ _ => .same
  | .rp _ _ _ _ => .same
  | .tu _ => .same
  | .gd _ _ => .same
  | .fs _ _ => .same
  | .fn _ _ => .same
  | .hf _ _ => .same
  | .sb _ _ _ _ _ _ => .same
  | .de => .same
  | .ob _ _ => .same
  | .mo _ _ => .same
theorem fzc_rel (b u k : Nat) (s0 : List (List AV)) : ∀ l : List AV, FzC b u k s0 l (fzc b u k s0 l)
  | [] => .nil
  | a :: l => .cons (fzv_rel b u k s0 a) (fzc_rel b u k s0 l)
end
def fzb (b u k : Nat) (s0 : List (List AV)) : List Sl → List Sl
  | [] => []
  | ⟨v, .c T c⟩ :: l => ⟨v, .c T (fzc b u k s0 c)⟩ :: fzb b u k s0 l
  | e :: l => e :: fzb b u k s0 l
theorem fzb_rel (b u k : Nat) (s0 : List (List AV)) : ∀ l : List Sl, FzB b u k s0 l (fzb b u k s0 l)
  | [] => .nil
  | ⟨v, .c T c⟩ :: l => .c (fzc_rel b u k s0 c) (fzb_rel b u k s0 l)
  | ⟨v, .r e k' s⟩ :: l => .same (fzb_rel b u k s0 l)
  | ⟨v, .x⟩ :: l => .same (fzb_rel b u k s0 l)
  | ⟨v, .o⟩ :: l => .same (fzb_rel b u k s0 l)
  | ⟨v, .y J⟩ :: l => .same (fzb_rel b u k s0 l)
  | ⟨v, .f _ _ _ _ _⟩ :: l => .same (fzb_rel b u k s0 l)
  | ⟨v, .m _ _ _ _⟩ :: l => .same (fzb_rel b u k s0 l)
/-- array b is given up -/
def fzS (s : AS) (b : Nat) : Option AS :=
  match s.b[b]? with
  | some ⟨u, .r _ k rows⟩ => some ⟨fzc b u k (roE rows) s.t, fzb b u k (roE rows) (s.b.set b ⟨u, .x⟩)⟩
  | _ => none
theorem gh_fzS {s s' : AS} {b : Nat} (h : fzS s b = some s') : Gh s s' := by
  unfold fzS at h
  split at h
  · rename_i hs
    injection h with h; subst h
    exact gh_fz hs rfl (fzc_rel _ _ _ _ _) (fzb_rel _ _ _ _ _)
  · cases h
def fzA : AS → List AV → Option AS
  | _, [] => none
  | s, .hd b _ :: l => match fzS s b with
    | some s' => match fzA s' l with
      | some s'' => some s''
      | none => some s'
    | none => fzA s l
  | s, _ :: l => fzA s l
theorem gh_fzA : ∀ {l : List AV} {s s' : AS}, fzA s l = some s' → Gh s s'
  | [], _, _, h => by cases h
  | a :: l, s, s', h => by
    cases a with
    | hd b u =>
      simp only [fzA] at h
      split at h
      · rename_i s1 h1
        split at h
        · rename_i s2 h2
          injection h with h; subst h
          exact (gh_fzS h1).trans (gh_fzA h2)
        · injection h with h; subst h
          exact gh_fzS h1
      · exact gh_fzA h
    | _ => exact gh_fzA (l := l) h
theorem AP.PF {P : Program} {X : Cx} {s s1 : AS} {ops : Array Oper} {rest : List Oper} {o : Oper} {Q : Exit → AS → Prop} {fo : Operand} {xs : Array Operand} {tys : Array TypeId} (K : AP P X ops Q (o :: rest) s1) (ho : o.op = .call { callee := .value fo, args := xs, argTypes := tys } := by exact rfl) (h : fzA s (xs.toList.map (aev s)) = some s1 := by exact rfl) : AP P X ops Q (o :: rest) s := AP.gh (gh_fzA h) K
theorem fq : type_of% (And.intro @fzc.eq_1 (And.intro @fzc.eq_2 (And.intro @fzv.eq_1 (And.intro @fzv.eq_2 (And.intro @fzv.eq_3 (And.intro @fzv.eq_4 (And.intro @fzv.eq_5 (And.intro @fzv.eq_6 (And.intro @fzv.eq_7 (And.intro @fzv.eq_8 (And.intro @fzv.eq_9 (And.intro @fzv.eq_10 (And.intro @fzv.eq_11 (And.intro @fzv.eq_12 (And.intro @fzv.eq_13 (And.intro @fzv.eq_14 (And.intro @fzb.eq_1 (And.intro @fzb.eq_2 @fzb.eq_3)))))))))))))))))) := (And.intro @fzc.eq_1 (And.intro @fzc.eq_2 (And.intro @fzv.eq_1 (And.intro @fzv.eq_2 (And.intro @fzv.eq_3 (And.intro @fzv.eq_4 (And.intro @fzv.eq_5 (And.intro @fzv.eq_6 (And.intro @fzv.eq_7 (And.intro @fzv.eq_8 (And.intro @fzv.eq_9 (And.intro @fzv.eq_10 (And.intro @fzv.eq_11 (And.intro @fzv.eq_12 (And.intro @fzv.eq_13 (And.intro @fzv.eq_14 (And.intro @fzb.eq_1 (And.intro @fzb.eq_2 @fzb.eq_3))))))))))))))))))
end Go.Proofs.Ytnjfchigdpifmaa

namespace Go.Proofs.Ytnjfchigdpifmaa
set_option linter.unusedVariables false
set_option linter.unusedSimpArgs false
open Go.RowKit
abbrev Q4 (x : UInt32) : AV := .sc (.int .u32 (x.toNat : Int))
def shlI (x : UInt32) (j : Int) : UInt32 := UInt32.ofBitVec (x.toBitVec <<< (min j.toNat 32))
def shrI (x : UInt32) (j : Int) : UInt32 := UInt32.ofBitVec (x.toBitVec >>> (min j.toNat 32))
/-- turned to the right -/
def rotr (x : UInt32) (n : Nat) : UInt32 := shrI x n ||| shlI x (32 - n : Int)
theorem u32_lt (x : UInt32) : x.toNat < 4294967296 := x.toNat_lt
theorem wrap_u32 {x : Int} (h : 0 ≤ x) (h' : x < 4294967296) : IntKind.u32.wrap x = x := by
  simp only [IntKind.wrap, IntKind.bits, IntKind.signed, Bool.false_and, Bool.false_eq_true, if_false]
  omega
theorem wrap_u64 {x : Int} (h : 0 ≤ x) (h' : x < 18446744073709551616) : IntKind.u64.wrap x = x := by
  simp only [IntKind.wrap, IntKind.bits, IntKind.signed, Bool.false_and, Bool.false_eq_true, if_false]
  omega
theorem w32_nat (n : Nat) : IntKind.u32.wrap (n : Int) = ((n % 4294967296 : Nat) : Int) := by
  simp only [IntKind.wrap, IntKind.bits, IntKind.signed, Bool.false_and, Bool.false_eq_true, if_false]
  omega
theorem w32_add (x y : UInt32) : IntKind.u32.wrap ((x.toNat : Int) + (y.toNat : Int)) = ((x + y).toNat : Int) := by
  rw [UInt32.toNat_add, ← Int.natCast_add, w32_nat]
theorem bv32 (x : UInt32) : BitVec.ofInt IntKind.u32.bits (x.toNat : Int) = x.toBitVec := by
  apply BitVec.eq_of_toNat_eq
  have := u32_lt x
  show (BitVec.ofInt 32 (x.toNat : Int)).toNat = x.toNat
  rw [BitVec.toNat_ofInt]; omega
theorem w32_bv (b : BitVec 32) : IntKind.u32.wrap ((b.toNat : Nat) : Int) = ((UInt32.ofBitVec b).toNat : Int) := by
  have := b.isLt
  rw [wrap_u32 (by omega) (by omega)]; rfl
theorem w32_and (x y : UInt32) : IntKind.u32.wrap (((BitVec.ofInt IntKind.u32.bits (x.toNat : Int)) &&& (BitVec.ofInt IntKind.u32.bits (y.toNat : Int))).toNat : Int) = ((x &&& y).toNat : Int) := by
  rw [bv32, bv32]; exact w32_bv _
theorem w32_or (x y : UInt32) : IntKind.u32.wrap (((BitVec.ofInt IntKind.u32.bits (x.toNat : Int)) ||| (BitVec.ofInt IntKind.u32.bits (y.toNat : Int))).toNat : Int) = ((x ||| y).toNat : Int) := by
  rw [bv32, bv32]; exact w32_bv _
theorem w32_xor (x y : UInt32) : IntKind.u32.wrap (((BitVec.ofInt IntKind.u32.bits (x.toNat : Int)) ^^^ (BitVec.ofInt IntKind.u32.bits (y.toNat : Int))).toNat : Int) = ((x ^^^ y).toNat : Int) := by
  rw [bv32, bv32]; exact w32_bv _
theorem w32_not (x : UInt32) : IntKind.u32.wrap (((BitVec.ofInt IntKind.u32.bits (if IntKind.u32.signed = true then -1 else IntKind.u32.max)) ^^^ (BitVec.ofInt IntKind.u32.bits (x.toNat : Int))).toNat : Int) = ((~~~x).toNat : Int) := by
  have e : (if IntKind.u32.signed = true then (-1 : Int) else IntKind.u32.max) = 4294967295 := by decide
  have e2 : BitVec.ofInt IntKind.u32.bits 4294967295 ^^^ BitVec.ofInt IntKind.u32.bits (x.toNat : Int) = (~~~x).toBitVec := by
    rw [bv32]
    show BitVec.ofInt 32 4294967295 ^^^ x.toBitVec = ~~~x.toBitVec
    rw [show BitVec.ofInt 32 4294967295 = BitVec.allOnes 32 from by decide, BitVec.allOnes_xor]
  rw [e, e2]
  exact w32_bv _
theorem w32_shr (x : UInt32) (j : Int) : Int.fdiv (x.toNat : Int) (2 ^ (min j.toNat IntKind.u32.bits)) = ((shrI x j).toNat : Int) := by
  show Int.fdiv (x.toNat : Int) (2 ^ (min j.toNat 32)) = ((x.toBitVec >>> (min j.toNat 32)).toNat : Int)
  generalize min j.toNat 32 = m
  have : ((2 : Int) ^ m) = ((2 ^ m : Nat) : Int) := by simp
  rw [this, BitVec.toNat_ushiftRight, Nat.shiftRight_eq_div_pow, Int.fdiv_eq_ediv_of_nonneg _ (Int.natCast_nonneg _)]
  exact (Int.natCast_ediv _ _).symm
theorem w32_shl (x : UInt32) (j : Int) : IntKind.u32.wrap ((x.toNat : Int) * 2 ^ (min j.toNat IntKind.u32.bits)) = ((shlI x j).toNat : Int) := by
  show IntKind.u32.wrap ((x.toNat : Int) * 2 ^ (min j.toNat 32)) = ((x.toBitVec <<< (min j.toNat 32)).toNat : Int)
  generalize min j.toNat 32 = m
  have : ((2 : Int) ^ m) = ((2 ^ m : Nat) : Int) := by simp
  rw [this, ← Int.natCast_mul, w32_nat, BitVec.toNat_shiftLeft, Nat.shiftLeft_eq]
  rfl
theorem w64_of32 (x : UInt32) : IntKind.u64.wrap (x.toNat : Int) = (x.toNat : Int) := wrap_u64 (by omega) (by have := u32_lt x; omega)
theorem q4 : type_of% (And.intro w32_add (And.intro w32_and (And.intro w32_or (And.intro w32_xor (And.intro w32_not (And.intro w32_shr (And.intro w32_shl w64_of32))))))) := And.intro w32_add (And.intro w32_and (And.intro w32_or (And.intro w32_xor (And.intro w32_not (And.intro w32_shr (And.intro w32_shl w64_of32))))))
/-! turning left -/
def rlJ (k : Int) : Int := IntKind.u64.wrap ((BitVec.ofInt IntKind.u64.bits (IntKind.u64.wrap k) &&& BitVec.ofInt IntKind.u64.bits 31).toNat : Int)
def rlX (x : UInt32) (k : Int) : UInt32 := shlI x (rlJ k) ||| shrI x (IntKind.u64.wrap (32 - rlJ k))
theorem wu64_nn (x : Int) : 0 ≤ IntKind.u64.wrap x := by
  simp only [IntKind.wrap, IntKind.bits, IntKind.signed, Bool.false_and, Bool.false_eq_true, if_false]
  omega
theorem rlJ_nn (k : Int) : 0 ≤ rlJ k := wu64_nn _
theorem rl_rot {x : UInt32} {n : Nat} (h1 : 1 ≤ n) (h2 : n ≤ 31) : rlX x (IntKind.i64.wrap (0 - Int.tmod (n : Int) 32)) = rotr x n := by
  have key : ∀ m : _root_.Fin 32, m.val ≠ 0 → rlJ (IntKind.i64.wrap (0 - Int.tmod ((m.val : Nat) : Int) 32)) = 32 - (m.val : Int) ∧ IntKind.u64.wrap (32 - rlJ (IntKind.i64.wrap (0 - Int.tmod ((m.val : Nat) : Int) 32))) = (m.val : Int) := by decide +kernel
  have := key ⟨n, by omega⟩ (by show n ≠ 0; omega)
  unfold rlX rotr
  rw [this.2, this.1, UInt32.or_comm]
end Go.Proofs.Ytnjfchigdpifmaa

namespace Go.Proofs.Ytnjfchigdpifmaa
set_option linter.unusedVariables false
set_option linter.unusedSimpArgs false
set_option maxHeartbeats 8000000
open Go.RowKit
set_option maxRecDepth 100000
theorem rl_ac (x : UInt32) (k : Int) : AC Try.prog 108 [Q4 x, I k] [] (fun v bs' => v = Q4 (rlX x k) ∧ bs' = []) := by
  have h0 := rlJ_nn k
  have h1 := wu64_nn (32 - rlJ k)
  unfold rlJ at h0 h1
  refine AC.N Try.func108 Try.ntmps108 ?_
  intro X hρ hmks
  simp only [nx, Nat.reduceAdd, Nat.reduceSub, BEq.rfl]
  repeat' (first
    | ((first
    | ((with_reducible apply AP.k_any); first
            | refine AP.S ?_
            | refine AP.A ?_ | refine AP.AB 0 ?_ | refine AP.AB 1 ?_ | refine AP.AL ?_
            | refine AP.LB ?_ | refine AP.TB ?_ | refine AP.IX ?_ | refine AP.SF ?_ | refine AP.SV ?_ | refine AP.CV ?_ | refine AP.CO ?_ | refine AP.FV ?_  | refine AP.PF ?_)
    ) <;> (try simp only [ nx, q4, rn, fq, Nat.mul_one, Bool.and_true, Bool.and_false, Nat.reduceBEq, Nat.reduceAdd, Nat.reduceSub, BEq.rfl]))
    | ((with_reducible apply AP.k_nil); first | (refine AP.nil (hQ' _ ?_); clear hQ' Q') | refine AP.nil ?_)
    | ((with_reducible apply CP.k_reg); refine cp_regG fun Q' hQ' => ?_)
      | (with_reducible apply CP.k_reg1; refine cp_region ?_)
      | ((with_reducible apply CP.k_cond); first | refine cp_condT rfl ?_ | refine cp_condF rfl ?_ | refine cp_cond rfl (fun hc => ?_) (fun hc => ?_))
      | refine CP.go ?_
      | (simp only [List.append_eq, List.cons_append, List.nil_append]))
  (exact RetQ.A [] (by exact ⟨rfl, rfl⟩))
theorem rotr_ac (x : UInt32) (n : Nat) (h1 : 1 ≤ n) (h2 : n ≤ 31) : AC Try.prog 106 [Q4 x, I n] [] (fun v bs' => v = Q4 (rotr x n) ∧ bs' = []) := by
  have h := rl_ac x (IntKind.i64.wrap (0 - Int.tmod (n : Int) 32))
  rw [rl_rot h1 h2] at h
  refine AC.N Try.func106 Try.ntmps106 ?_
  intro X hρ hmks
  simp only [nx, Nat.reduceAdd, Nat.reduceSub, BEq.rfl]
  repeat' (first
    | ((first
    | ((with_reducible apply AP.k_any); first
            | refine AP.S ?_
            | refine AP.A ?_ | refine AP.AB 0 ?_ | refine AP.AB 1 ?_ | refine AP.AL ?_
            | refine AP.LB ?_ | refine AP.TB ?_ | refine AP.IX ?_ | refine AP.SF ?_ | refine AP.SV ?_ | refine AP.CV ?_ | refine AP.CO ?_ | refine AP.FV ?_  | refine AP.PF ?_)
    ) <;> (try simp only [ nx, q4, rn, fq, Nat.mul_one, Bool.and_true, Bool.and_false, Nat.reduceBEq, Nat.reduceAdd, Nat.reduceSub, BEq.rfl]))
    | ((with_reducible apply AP.k_nil); first | (refine AP.nil (hQ' _ ?_); clear hQ' Q') | refine AP.nil ?_)
    | ((with_reducible apply CP.k_reg); refine cp_regG fun Q' hQ' => ?_)
      | (with_reducible apply CP.k_reg1; refine cp_region ?_)
      | ((with_reducible apply CP.k_cond); first | refine cp_condT rfl ?_ | refine cp_condF rfl ?_ | refine cp_cond rfl (fun hc => ?_) (fun hc => ?_))
      | refine CP.go ?_
      | (simp only [List.append_eq, List.cons_append, List.nil_append]))
  (exact RetQ.A [] (by exact ⟨rfl, rfl⟩))
theorem shr_ac (x : UInt32) (n : Nat) (hn : 0 < n) : AC Try.prog 107 [Q4 x, I n] [] (fun v bs' => v = Q4 (shrI x n) ∧ bs' = []) := by
  have hd : (if (n : Int) < 0 then (0 : Int) else (n : Int)) = n := if_neg (by omega)
  refine AC.N Try.func107 Try.ntmps107 ?_
  intro X hρ hmks
  simp only [nx, Nat.reduceAdd, Nat.reduceSub, BEq.rfl]
  repeat' (first
    | ((first
    | ((with_reducible apply AP.k_any); first
            | refine AP.S ?_
            | refine AP.A ?_ | refine AP.AB 0 ?_ | refine AP.AB 1 ?_ | refine AP.AL ?_
            | refine AP.LB ?_ | refine AP.TB ?_ | refine AP.IX ?_ | refine AP.SF ?_ | refine AP.SV ?_ | refine AP.CV ?_ | refine AP.CO ?_ | refine AP.FV ?_  | refine AP.PF ?_)
    ) <;> (try simp only [ nx, q4, rn, fq, Nat.mul_one, Bool.and_true, Bool.and_false, Nat.reduceBEq, Nat.reduceAdd, Nat.reduceSub, BEq.rfl]))
    | ((with_reducible apply AP.k_nil); first | (refine AP.nil (hQ' _ ?_); clear hQ' Q') | refine AP.nil ?_)
    | ((with_reducible apply CP.k_reg); refine cp_regG fun Q' hQ' => ?_)
      | (with_reducible apply CP.k_reg1; refine cp_region ?_)
      | ((with_reducible apply CP.k_cond); first | refine cp_condT rfl ?_ | refine cp_condF rfl ?_ | refine cp_cond rfl (fun hc => ?_) (fun hc => ?_))
      | refine CP.go ?_
      | (simp only [List.append_eq, List.cons_append, List.nil_append]))
  simp only [hd]
  (exact RetQ.A [] (by exact ⟨rfl, rfl⟩))
/-- Σ, σ -/
def tnS (x : UInt32) (a b c : Nat) : UInt32 := rotr x a ^^^ rotr x b ^^^ rotr x c
def smS (x : UInt32) (a b c : Nat) : UInt32 := rotr x a ^^^ rotr x b ^^^ shrI x c
theorem turned_ac (x : UInt32) (a b c : Nat) (ha : 1 ≤ a ∧ a ≤ 31) (hb : 1 ≤ b ∧ b ≤ 31) (hc : 1 ≤ c ∧ c ≤ 31) : AC Try.prog 105 [Q4 x, I a, I b, I c] [] (fun v bs' => v = Q4 (tnS x a b c) ∧ bs' = []) := by
  have h1 := rotr_ac x a ha.1 ha.2
  have h2 := rotr_ac x b hb.1 hb.2
  have h3 := rotr_ac x c hc.1 hc.2
  refine AC.N Try.func105 Try.ntmps105 ?_
  intro X hρ hmks
  simp only [nx, Nat.reduceAdd, Nat.reduceSub, BEq.rfl]
  repeat' (first
    | ((first
    | ((with_reducible apply AP.k_any); first
            | refine AP.S ?_
            | refine AP.A ?_ | refine AP.AB 0 ?_ | refine AP.AB 1 ?_ | refine AP.AL ?_
            | refine AP.LB ?_ | refine AP.TB ?_ | refine AP.IX ?_ | refine AP.SF ?_ | refine AP.SV ?_ | refine AP.CV ?_ | refine AP.CO ?_ | refine AP.FV ?_ | ((with_reducible apply AP.k_any); refine AP.C (h1) ?_) | ((with_reducible apply AP.k_any); refine AP.C (h2) ?_) | ((with_reducible apply AP.k_any); refine AP.C (h3) ?_) | refine AP.PF ?_)
    ) <;> (try simp only [ nx, q4, rn, fq, Nat.mul_one, Bool.and_true, Bool.and_false, Nat.reduceBEq, Nat.reduceAdd, Nat.reduceSub, BEq.rfl]))
    | ((with_reducible apply AP.k_nil); first | (refine AP.nil (hQ' _ ?_); clear hQ' Q') | refine AP.nil ?_)
    | ((with_reducible apply CP.k_reg); refine cp_regG fun Q' hQ' => ?_)
      | (with_reducible apply CP.k_reg1; refine cp_region ?_)
      | ((with_reducible apply CP.k_cond); first | refine cp_condT rfl ?_ | refine cp_condF rfl ?_ | refine cp_cond rfl (fun hc => ?_) (fun hc => ?_))
      | refine CP.go ?_
      | (simp only [List.append_eq, List.cons_append, List.nil_append]))
  (exact RetQ.A [] (by exact ⟨rfl, rfl⟩))
theorem small_ac (x : UInt32) (a b c : Nat) (ha : 1 ≤ a ∧ a ≤ 31) (hb : 1 ≤ b ∧ b ≤ 31) (hc : 1 ≤ c ∧ c ≤ 31) : AC Try.prog 103 [Q4 x, I a, I b, I c] [] (fun v bs' => v = Q4 (smS x a b c) ∧ bs' = []) := by
  have h1 := rotr_ac x a ha.1 ha.2
  have h2 := rotr_ac x b hb.1 hb.2
  have h3 := shr_ac x c (by omega)
  refine AC.N Try.func103 Try.ntmps103 ?_
  intro X hρ hmks
  simp only [nx, Nat.reduceAdd, Nat.reduceSub, BEq.rfl]
  repeat' (first
    | ((first
    | ((with_reducible apply AP.k_any); first
            | refine AP.S ?_
            | refine AP.A ?_ | refine AP.AB 0 ?_ | refine AP.AB 1 ?_ | refine AP.AL ?_
            | refine AP.LB ?_ | refine AP.TB ?_ | refine AP.IX ?_ | refine AP.SF ?_ | refine AP.SV ?_ | refine AP.CV ?_ | refine AP.CO ?_ | refine AP.FV ?_ | ((with_reducible apply AP.k_any); refine AP.C (h1) ?_) | ((with_reducible apply AP.k_any); refine AP.C (h2) ?_) | ((with_reducible apply AP.k_any); refine AP.C (h3) ?_) | refine AP.PF ?_)
    ) <;> (try simp only [ nx, q4, rn, fq, Nat.mul_one, Bool.and_true, Bool.and_false, Nat.reduceBEq, Nat.reduceAdd, Nat.reduceSub, BEq.rfl]))
    | ((with_reducible apply AP.k_nil); first | (refine AP.nil (hQ' _ ?_); clear hQ' Q') | refine AP.nil ?_)
    | ((with_reducible apply CP.k_reg); refine cp_regG fun Q' hQ' => ?_)
      | (with_reducible apply CP.k_reg1; refine cp_region ?_)
      | ((with_reducible apply CP.k_cond); first | refine cp_condT rfl ?_ | refine cp_condF rfl ?_ | refine cp_cond rfl (fun hc => ?_) (fun hc => ?_))
      | refine CP.go ?_
      | (simp only [List.append_eq, List.cons_append, List.nil_append]))
  (exact RetQ.A [] (by exact ⟨rfl, rfl⟩))
end Go.Proofs.Ytnjfchigdpifmaa

namespace Go.Proofs.Ytnjfchigdpifmaa
set_option linter.unusedVariables false
set_option linter.unusedSimpArgs false
set_option maxHeartbeats 8000000
open Go.RowKit
set_option maxRecDepth 100000
def K32 : List UInt32 := [0x428a2f98, 0x71374491, 0xb5c0fbcf, 0xe9b5dba5, 0x3956c25b, 0x59f111f1, 0x923f82a4, 0xab1c5ed5, 0xd807aa98, 0x12835b01, 0x243185be, 0x550c7dc3, 0x72be5d74, 0x80deb1fe, 0x9bdc06a7, 0xc19bf174, 0xe49b69c1, 0xefbe4786, 0x0fc19dc6, 0x240ca1cc, 0x2de92c6f, 0x4a7484aa, 0x5cb0a9dc, 0x76f988da, 0x983e5152, 0xa831c66d, 0xb00327c8, 0xbf597fc7, 0xc6e00bf3, 0xd5a79147, 0x06ca6351, 0x14292967, 0x27b70a85, 0x2e1b2138, 0x4d2c6dfc, 0x53380d13, 0x650a7354, 0x766a0abb, 0x81c2c92e, 0x92722c85, 0xa2bfe8a1, 0xa81a664b, 0xc24b8b70, 0xc76c51a3, 0xd192e819, 0xd6990624, 0xf40e3585, 0x106aa070, 0x19a4c116, 0x1e376c08, 0x2748774c, 0x34b0bcb5, 0x391c0cb3, 0x4ed8aa4a, 0x5b9cca4f, 0x682e6ff3, 0x748f82ee, 0x78a5636f, 0x84c87814, 0x8cc70208, 0x90befffa, 0xa4506ceb, 0xbef9a3f7, 0xc67178f2]
def be4 (b : List UInt8) (p : Int) : UInt32 := UInt32.ofNat (loadS b p 4).1
theorem w32_of (n : Nat) : IntKind.u32.wrap (n : Int) = ((UInt32.ofNat n).toNat : Int) := by rw [w32_nat]; rfl
theorem load32_ac (b : List UInt8) (p : Int) (hb : b.length ≤ 100000000) (hp : p ≤ 200000000) (hp2 : -1000000 ≤ p) : AC Try.prog 59 [bs none b, I p] [] (fun v bs' => v = .tu [Q4 (be4 b p), B (loadS b p 4).2] ∧ bs' = []) := by
  have h := load_ac b p 4 (by omega) hb hp hp2
  unfold be4
  generalize loadS b p 4 = r at h ⊢
  refine AC.N Try.func59 Try.ntmps59 ?_
  intro X hρ hmks
  simp only [nx, Nat.reduceAdd, Nat.reduceSub, BEq.rfl]
  repeat' (first
    | ((first
    | ((with_reducible apply AP.k_any); first
            | refine AP.S ?_
            | refine AP.A ?_ | refine AP.AB 0 ?_ | refine AP.AB 1 ?_ | refine AP.AL ?_
            | refine AP.LB ?_ | refine AP.TB ?_ | refine AP.IX ?_ | refine AP.SF ?_ | refine AP.SV ?_ | refine AP.CV ?_ | refine AP.CO ?_ | refine AP.FV ?_  | refine AP.PF ?_)
    ) <;> (try simp only [w32_of, nx, q4, rn, fq, Nat.mul_one, Bool.and_true, Bool.and_false, Nat.reduceBEq, Nat.reduceAdd, Nat.reduceSub, BEq.rfl]))
    | ((with_reducible apply AP.k_nil); first | (refine AP.nil (hQ' _ ?_); clear hQ' Q') | refine AP.nil ?_)
    | ((with_reducible apply CP.k_reg); refine cp_regG fun Q' hQ' => ?_)
      | (with_reducible apply CP.k_reg1; refine cp_region ?_)
      | ((with_reducible apply CP.k_cond); first | refine cp_condT rfl ?_ | refine cp_condF rfl ?_ | refine cp_cond rfl (fun hc => ?_) (fun hc => ?_))
      | refine CP.go ?_
      | (simp only [List.append_eq, List.cons_append, List.nil_append]))
  (exact RetQ.A [] (by exact ⟨rfl, rfl⟩))
theorem constants_ac : AC Try.prog 104 [] [] (fun v bs' => v = .ag (K32.map Q4) ∧ bs' = []) := by
  refine AC.N Try.func104 Try.ntmps104 ?_
  intro X hρ hmks
  simp only [nx, Nat.reduceAdd, Nat.reduceSub, BEq.rfl]
  repeat' (first
    | ((first
    | ((with_reducible apply AP.k_any); first
            | refine AP.S ?_
            | refine AP.A ?_ | refine AP.AB 0 ?_ | refine AP.AB 1 ?_ | refine AP.AL ?_
            | refine AP.LB ?_ | refine AP.TB ?_ | refine AP.IX ?_ | refine AP.SF ?_ | refine AP.SV ?_ | refine AP.CV ?_ | refine AP.CO ?_ | refine AP.FV ?_  | refine AP.PF ?_)
    ) <;> (try simp only [ nx, q4, rn, fq, Nat.mul_one, Bool.and_true, Bool.and_false, Nat.reduceBEq, Nat.reduceAdd, Nat.reduceSub, BEq.rfl]))
    | ((with_reducible apply AP.k_nil); first | (refine AP.nil (hQ' _ ?_); clear hQ' Q') | refine AP.nil ?_)
    | ((with_reducible apply CP.k_reg); refine cp_regG fun Q' hQ' => ?_)
      | (with_reducible apply CP.k_reg1; refine cp_region ?_)
      | ((with_reducible apply CP.k_cond); first | refine cp_condT rfl ?_ | refine cp_condF rfl ?_ | refine cp_cond rfl (fun hc => ?_) (fun hc => ?_))
      | refine CP.go ?_
      | (simp only [List.append_eq, List.cons_append, List.nil_append]))
  (exact RetQ.A [] (by exact ⟨rfl, rfl⟩))
structure S8 where
  (a b c d e f g h : UInt32)
abbrev e8 (s : S8) : List AV := [Q4 s.a, Q4 s.b, Q4 s.c, Q4 s.d, Q4 s.e, Q4 s.f, Q4 s.g, Q4 s.h]
def s8z : S8 := ⟨0x6a09e667, 0xbb67ae85, 0x3c6ef372, 0xa54ff53a, 0x510e527f, 0x9b05688c, 0x1f83d9ab, 0x5be0cd19⟩
theorem first_ac : AC Try.prog 98 [] [] (fun v bs' => v = .ag (e8 s8z) ∧ bs' = []) := by
  refine AC.N Try.func98 Try.ntmps98 ?_
  intro X hρ hmks
  simp only [nx, Nat.reduceAdd, Nat.reduceSub, BEq.rfl]
  repeat' (first
    | ((first
    | ((with_reducible apply AP.k_any); first
            | refine AP.S ?_
            | refine AP.A ?_ | refine AP.AB 0 ?_ | refine AP.AB 1 ?_ | refine AP.AL ?_
            | refine AP.LB ?_ | refine AP.TB ?_ | refine AP.IX ?_ | refine AP.SF ?_ | refine AP.SV ?_ | refine AP.CV ?_ | refine AP.CO ?_ | refine AP.FV ?_  | refine AP.PF ?_)
    ) <;> (try simp only [ nx, q4, rn, fq, Nat.mul_one, Bool.and_true, Bool.and_false, Nat.reduceBEq, Nat.reduceAdd, Nat.reduceSub, BEq.rfl]))
    | ((with_reducible apply AP.k_nil); first | (refine AP.nil (hQ' _ ?_); clear hQ' Q') | refine AP.nil ?_)
    | ((with_reducible apply CP.k_reg); refine cp_regG fun Q' hQ' => ?_)
      | (with_reducible apply CP.k_reg1; refine cp_region ?_)
      | ((with_reducible apply CP.k_cond); first | refine cp_condT rfl ?_ | refine cp_condF rfl ?_ | refine cp_cond rfl (fun hc => ?_) (fun hc => ?_))
      | refine CP.go ?_
      | (simp only [List.append_eq, List.cons_append, List.nil_append]))
  (exact RetQ.A [] (by exact ⟨rfl, rfl⟩))
/-- the schedule's first words -/
def wX (b : List UInt8) (l : List UInt32) (n : Nat) : UInt32 := if n < 16 then be4 b (4 * n) else smS (l.getD (n - 2) 0) 17 19 10 + l.getD (n - 7) 0 + smS (l.getD (n - 15) 0) 7 18 3 + l.getD (n - 16) 0
def wS (b : List UInt8) : Nat → List UInt32
  | 0 => []
  | n + 1 => wS b n ++ [wX b (wS b n) n]
theorem wS_len (b : List UInt8) : ∀ n, (wS b n).length = n
  | 0 => rfl
  | n + 1 => by simp [wS, wS_len b n]
def scB (b : List UInt8) (n : Nat) : List AV := (wS b n ++ List.replicate (64 - n) 0).map Q4
theorem scB_len (b : List UInt8) (n : Nat) (h : n ≤ 64) : (scB b n).length = 64 := by simp [scB, wS_len]; omega
theorem scB_at (b : List UInt8) {n i : Nat} (h : i < n) : (scB b n)[i]? = some (Q4 ((wS b n).getD i 0)) := by
  have := wS_len b n
  unfold scB
  rw [List.getElem?_map, List.getElem?_append_left (by omega), List.getD_eq_getElem?_getD, List.getElem?_eq_getElem (by omega)]; rfl
theorem scB_set (b : List UInt8) {n : Nat} (h : n < 64) : (scB b n).set n (Q4 (wX b (wS b n) n)) = scB b (n + 1) := by
  unfold scB
  rw [← List.map_set]
  congr 1
  have hl := wS_len b n
  rw [List.set_append_right _ _ (by omega), hl, Nat.sub_self, show 64 - n = (64 - (n + 1)) + 1 by omega, List.replicate_succ, List.set_cons_zero]
  simp [wS]
/-- one round -/
def rnd (s : S8) (k w : UInt32) : S8 :=
  let one := s.h + tnS s.e 6 11 25 + (s.e &&& s.f ||| ~~~s.e &&& s.g) + k + w
  let two := tnS s.a 2 13 22 + (s.a &&& s.b ||| s.a &&& s.c ||| s.b &&& s.c)
  ⟨one + two, s.a, s.b, s.c, s.d + one, s.e, s.f, s.g⟩
def rS (n : S8) (b : List UInt8) : Nat → S8
  | 0 => n
  | t + 1 => rnd (rS n b t) (K32.getD t 0) ((wS b 64).getD t 0)
def blockS (n : S8) (b : List UInt8) : S8 :=
  let x := rS n b 64
  ⟨n.a + x.a, n.b + x.b, n.c + x.c, n.d + x.d, n.e + x.e, n.f + x.f, n.g + x.g, n.h + x.h⟩
theorem oc_Q4 : ∀ (l : List UInt32) (t : List Sl), opnC (l.map Q4) t = (l.map Q4, t)
  | [], _ => rfl
  | x :: l, t => by rw [List.map_cons, oc_sc, oc_Q4 l]
theorem K32_at {i : Nat} (h : i < 64) : (K32.map Q4)[i]? = some (Q4 (K32.getD i 0)) := by
  have : K32.length = 64 := rfl
  simp [List.getD_eq_getElem?_getD, List.getElem?_eq_getElem (show i < K32.length by omega)]
end Go.Proofs.Ytnjfchigdpifmaa

namespace Go.Proofs.Ytnjfchigdpifmaa
set_option linter.unusedVariables false
set_option linter.unusedSimpArgs false
set_option maxHeartbeats 8000000
open Go.RowKit
set_option maxRecDepth 100000
theorem block_ac (n : S8) (b : List UInt8) (hb : b.length ≤ 100000000) : AC Try.prog 101 [.ag (e8 n), bs none b] [] (fun v bs' => v = .ag (e8 (blockS n b)) ∧ bs' = []) := by
  have hk := constants_ac
  refine AC.N Try.func101 Try.ntmps101 ?_
  intro X hρ hmks
  simp only [nx, Nat.reduceAdd, Nat.reduceSub, BEq.rfl]
  repeat' (first
    | ((first
    | ((with_reducible apply AP.k_any); first
            | refine AP.S ?_
            | refine AP.E ?_
            | refine AP.T ?_
            | refine AP.A ?_ | refine AP.AB 0 ?_ | refine AP.AB 1 ?_ | refine AP.AL ?_
            | refine AP.LB ?_ | refine AP.TB ?_ | refine AP.IX ?_ | refine AP.SF ?_ | refine AP.SV ?_ | refine AP.CV ?_ | refine AP.CO ?_ | refine AP.FV ?_  | refine AP.PF ?_)
      | ((with_reducible apply DW.k_any); first
        | refine DW.R ?_ | refine DW.R' ?_ | refine DW.W ?_ | refine DW.W' ?_ | refine DW.RA ?_ | refine DW.A 0 ?_ | refine DW.A 1 ?_ | refine DW.A 2 ?_ | refine DW.A' 0 ?_ | refine DW.A' 2 ?_ | ((fail_if_success refine DW.known rfl ?_); refine DW.G (fun hg => ?_) (fun hg => ?_))
        | refine DW.RX ?_ | refine DW.WX ?_ | refine DW.WX' ?_)
    | ((with_reducible apply DW.k_any); first
                | refine DW.R ?_ | refine DW.R' ?_ | refine DW.W ?_ | refine DW.W' ?_
                | (refine DW.known rfl ?_; (with_reducible first | apply DW.sx 2 | apply DW.sxN 2); (iterate 2 (focus (simp only [ft, nm, Nat.reduceAdd, Nat.reduceBEq, List.getElem?_cons_zero, List.getElem?_cons_succ]; exact rfl))); (focus (intro X V; simp only [ft, nm, Nat.reduceAdd, Nat.reduceBEq]; (try (refine AP.Y ?_; dsimp only)); (first  | fail); (try simp only [nx, Nat.reduceAdd, Nat.reduceSub, BEq.rfl]); refine AP.nil ?_; (first | refine ⟨trivial, rfl, ?_⟩ | refine ⟨rfl, rfl, ?_⟩); (repeat' (first | exact Mg.nil | apply Mg.keep rfl | apply Mg.take rfl)); done)); (focus (refine Exists.intro (fun _ => 0) ?_; apply Exists.intro; (repeat' (first | exact Mg.nil | apply Mg.keep rfl | apply Mg.take rfl)); done)); (iterate 2 (focus (exact rfl))))
                | ((fail_if_success refine DW.known rfl ?_); refine DW.G (fun hg => ?_) (fun hg => ?_))
    )
    ) <;> (try simp only [ nx, q4, rn, fq, Nat.mul_one, Bool.and_true, Bool.and_false, Nat.reduceBEq, Nat.reduceAdd, Nat.reduceSub, BEq.rfl]))
    | ((with_reducible apply AP.k_nil); first | (refine AP.nil (hQ' _ ?_); clear hQ' Q') | refine AP.nil ?_)
    | ((with_reducible apply CP.k_drw); refine cp_drwX fun Q' hQ' => ?_)
    | ((with_reducible apply CP.k_drw1); refine cp_drawX ?_)
    | ((with_reducible apply DW.k_nil); refine DW.nl ?_; first | (refine hQ' _ ?_; clear hQ' Q') | skip)
    | ((with_reducible apply CP.k_reg); refine cp_regG fun Q' hQ' => ?_)
      | (with_reducible apply CP.k_reg1; refine cp_region ?_)
      | ((with_reducible apply CP.k_cond); first | refine cp_condT rfl ?_ | refine cp_condF rfl ?_ | refine cp_cond rfl (fun hc => ?_) (fun hc => ?_))
      | refine CP.go ?_
      | (simp only [List.append_eq, List.cons_append, List.nil_append]))
  refine cp_loopS [6, 15, 16, 17, 18, 19, 20, 21, 22, 23, 24, 25, 26, 27, 28, 29, 30, 31, 32, 33, 34, 35, 36, 37, 38, 39, 40, 41, 42, 43, 44, 45, 46, 47, 48, 49, 50, 51, 52] (fun a : Nat => 64 - a) (fun a => a ≤ 64) (fun a => [(15, I a)]) (fun a => [(2, ⟨1, .c 144 (scB b a)⟩)]) 0 (Nat.zero_le _) (by exact Gh.W) ?_
  intro i hi
  simp only [setT, deT, setB, List.set_cons_succ, List.set_cons_zero]
  by_cases hlt : i < 64
  · have hw : IntKind.i64.wrap ((i : Int) + 1) = ((i + 1 : Nat) : Int) := wrap_i64 (by omega) (by omega)
    have d64 : decide ((i : Int) < 64) = true := by simp; omega
    have hlen := scB_len b i hi
    have hset := scB_set b hlt
    by_cases h16 : i < 16
    · have d16 : decide ((i : Int) < 16) = true := by simp; omega
      have hx : wX b (wS b i) i = be4 b (4 * i) := if_pos h16
      rw [hx] at hset
      have hw4 : IntKind.i64.wrap (4 * (i : Int)) = 4 * (i : Int) := wrap_i64 (by omega) (by omega)
      have hl := load32_ac b (4 * i) hb (by omega) (by omega)
      repeat' (first
        | ((first
        | ((with_reducible apply AP.k_any); first
                | refine AP.S ?_
                | refine AP.E ?_
                | refine AP.T ?_
                | refine AP.A ?_ | refine AP.AB 0 ?_ | refine AP.AB 1 ?_ | refine AP.AL ?_
                | refine AP.LB ?_ | refine AP.TB ?_ | refine AP.IX ?_ | refine AP.SF ?_ | refine AP.SV ?_ | refine AP.CV ?_ | refine AP.CO ?_ | refine AP.FV ?_  | refine AP.PF ?_)
          | ((with_reducible apply DW.k_any); first
            | refine DW.R ?_ | refine DW.R' ?_ | refine DW.W ?_ | refine DW.W' ?_ | refine DW.RA ?_ | refine DW.A 0 ?_ | refine DW.A 1 ?_ | refine DW.A 2 ?_ | refine DW.A' 0 ?_ | refine DW.A' 2 ?_ | ((fail_if_success refine DW.known rfl ?_); refine DW.G (fun hg => ?_) (fun hg => ?_))
            | refine DW.RX ?_ | refine DW.WX ?_ | refine DW.WX' ?_)
        | ((with_reducible apply DW.k_any); first
                    | refine DW.R ?_ | refine DW.R' ?_ | refine DW.W ?_ | refine DW.W' ?_
                    | (refine DW.known rfl ?_; (with_reducible first | apply DW.sx 2 | apply DW.sxN 2); (iterate 2 (focus (simp only [ft, nm, Nat.reduceAdd, Nat.reduceBEq, List.getElem?_cons_zero, List.getElem?_cons_succ]; exact rfl))); (focus (intro X V; simp only [ft, nm, Nat.reduceAdd, Nat.reduceBEq]; (try (refine AP.Y ?_; dsimp only)); (first  | fail); (try simp only [nx, Nat.reduceAdd, Nat.reduceSub, BEq.rfl]); refine AP.nil ?_; (first | refine ⟨trivial, rfl, ?_⟩ | refine ⟨rfl, rfl, ?_⟩); (repeat' (first | exact Mg.nil | apply Mg.keep rfl | apply Mg.take rfl)); done)); (focus (refine Exists.intro (fun _ => 0) ?_; apply Exists.intro; (repeat' (first | exact Mg.nil | apply Mg.keep rfl | apply Mg.take rfl)); done)); (iterate 2 (focus (exact rfl))))
                    | ((fail_if_success refine DW.known rfl ?_); refine DW.G (fun hg => ?_) (fun hg => ?_))
        )
        ) <;> (try simp only [hw4, d64, d16, nx, q4, rn, fq, Nat.mul_one, Bool.and_true, Bool.and_false, Nat.reduceBEq, Nat.reduceAdd, Nat.reduceSub, BEq.rfl]))
        | ((with_reducible apply AP.k_nil); first | (refine AP.nil (hQ' _ ?_); clear hQ' Q') | refine AP.nil ?_)
        | ((with_reducible apply CP.k_drw); refine cp_drwX fun Q' hQ' => ?_)
        | ((with_reducible apply CP.k_drw1); refine cp_drawX ?_)
        | ((with_reducible apply DW.k_nil); refine DW.nl ?_; first | (refine hQ' _ ?_; clear hQ' Q') | skip)
        | ((with_reducible apply CP.k_reg); refine cp_regG fun Q' hQ' => ?_)
          | (with_reducible apply CP.k_reg1; refine cp_region ?_)
          | ((with_reducible apply CP.k_cond); first | refine cp_condT rfl ?_ | refine cp_condF rfl ?_ | refine cp_cond rfl (fun hc => ?_) (fun hc => ?_))
          | refine CP.go ?_
          | (simp only [List.append_eq, List.cons_append, List.nil_append]))
      simp only [hw, Nat.mul_one, Nat.zero_add, Int.toNat_natCast]
      exact ⟨i + 1, by omega, by omega, by (rw [← hset]; exact Gh.W)⟩
    · have d16 : decide ((i : Int) < 16) = false := by simp; omega
      have hx : wX b (wS b i) i = smS ((wS b i).getD (i - 2) 0) 17 19 10 + (wS b i).getD (i - 7) 0 + smS ((wS b i).getD (i - 15) 0) 7 18 3 + (wS b i).getD (i - 16) 0 := if_neg h16
      rw [hx] at hset
      have w2 : IntKind.i64.wrap ((i : Int) - 2) = ((i - 2 : Nat) : Int) := by rw [wrap_i64 (by omega) (by omega)]; omega
      have w7 : IntKind.i64.wrap ((i : Int) - 7) = ((i - 7 : Nat) : Int) := by rw [wrap_i64 (by omega) (by omega)]; omega
      have w15 : IntKind.i64.wrap ((i : Int) - 15) = ((i - 15 : Nat) : Int) := by rw [wrap_i64 (by omega) (by omega)]; omega
      have w16 : IntKind.i64.wrap ((i : Int) - 16) = ((i - 16 : Nat) : Int) := by rw [wrap_i64 (by omega) (by omega)]; omega
      have g2 := scB_at b (n := i) (i := i - 2) (by omega)
      have g7 := scB_at b (n := i) (i := i - 7) (by omega)
      have g15 := scB_at b (n := i) (i := i - 15) (by omega)
      have g16 := scB_at b (n := i) (i := i - 16) (by omega)
      generalize (wS b i).getD (i - 2) 0 = x2 at *
      generalize (wS b i).getD (i - 7) 0 = x7 at *
      generalize (wS b i).getD (i - 15) 0 = x15 at *
      generalize (wS b i).getD (i - 16) 0 = x16 at *
      have h1 := small_ac x2 17 19 10 (by omega) (by omega) (by omega)
      have h2 := small_ac x15 7 18 3 (by omega) (by omega) (by omega)
      repeat' (first
        | ((first
        | ((with_reducible apply AP.k_any); first
                | refine AP.S ?_
                | refine AP.E ?_
                | refine AP.T ?_
                | refine AP.A ?_ | refine AP.AB 0 ?_ | refine AP.AB 1 ?_ | refine AP.AL ?_
                | refine AP.LB ?_ | refine AP.TB ?_ | refine AP.IX ?_ | refine AP.SF ?_ | refine AP.SV ?_ | refine AP.CV ?_ | refine AP.CO ?_ | refine AP.FV ?_ | ((with_reducible apply AP.k_any); refine AP.C (h1) ?_) | ((with_reducible apply AP.k_any); refine AP.C (h2) ?_) | refine AP.PF ?_)
          | ((with_reducible apply DW.k_any); first
            | refine DW.R ?_ | refine DW.R' ?_ | refine DW.W ?_ | refine DW.W' ?_ | refine DW.RA ?_ | refine DW.A 0 ?_ | refine DW.A 1 ?_ | refine DW.A 2 ?_ | refine DW.A' 0 ?_ | refine DW.A' 2 ?_ | ((fail_if_success refine DW.known rfl ?_); refine DW.G (fun hg => ?_) (fun hg => ?_))
            | refine DW.RX ?_ | refine DW.WX ?_ | refine DW.WX' ?_)
        | ((with_reducible apply DW.k_any); first
                    | refine DW.R ?_ | refine DW.R' ?_ | refine DW.W ?_ | refine DW.W' ?_
                    | (refine DW.known rfl ?_; (with_reducible first | apply DW.sx 2 | apply DW.sxN 2); (iterate 2 (focus (simp only [ft, nm, Nat.reduceAdd, Nat.reduceBEq, List.getElem?_cons_zero, List.getElem?_cons_succ]; exact rfl))); (focus (intro X V; simp only [ft, nm, Nat.reduceAdd, Nat.reduceBEq]; (try (refine AP.Y ?_; dsimp only)); (first | ((with_reducible apply AP.k_any); refine AP.C (h1) ?_) | ((with_reducible apply AP.k_any); refine AP.C (h2) ?_) | fail); (try simp only [nx, Nat.reduceAdd, Nat.reduceSub, BEq.rfl]); refine AP.nil ?_; (first | refine ⟨trivial, rfl, ?_⟩ | refine ⟨rfl, rfl, ?_⟩); (repeat' (first | exact Mg.nil | apply Mg.keep rfl | apply Mg.take rfl)); done)); (focus (refine Exists.intro (fun _ => 0) ?_; apply Exists.intro; (repeat' (first | exact Mg.nil | apply Mg.keep rfl | apply Mg.take rfl)); done)); (iterate 2 (focus (exact rfl))))
                    | ((fail_if_success refine DW.known rfl ?_); refine DW.G (fun hg => ?_) (fun hg => ?_))
        )
        ) <;> (try simp only [w2, w7, w15, w16, d64, d16, nx, q4, rn, fq, Nat.mul_one, Bool.and_true, Bool.and_false, Nat.reduceBEq, Nat.reduceAdd, Nat.reduceSub, BEq.rfl]))
        | ((with_reducible apply AP.k_nil); first | (refine AP.nil (hQ' _ ?_); clear hQ' Q') | refine AP.nil ?_)
        | ((with_reducible apply CP.k_drw); refine cp_drwX fun Q' hQ' => ?_)
        | ((with_reducible apply CP.k_drw1); refine cp_drawX ?_)
        | ((with_reducible apply DW.k_nil); refine DW.nl ?_; first | (refine hQ' _ ?_; clear hQ' Q') | skip)
        | ((with_reducible apply CP.k_reg); refine cp_regG fun Q' hQ' => ?_)
          | (with_reducible apply CP.k_reg1; refine cp_region ?_)
          | ((with_reducible apply CP.k_cond); first | refine cp_condT rfl ?_ | refine cp_condF rfl ?_ | refine cp_cond rfl (fun hc => ?_) (fun hc => ?_))
          | refine CP.go ?_
          | (simp only [List.append_eq, List.cons_append, List.nil_append]))
      simp only [hw]
      exact ⟨i + 1, by omega, by omega, by (rw [← hset]; exact Gh.W)⟩
  · obtain rfl : i = 64 := by omega
    have hgw : ∀ i, i < 64 → (scB b 64)[i]? = some (Q4 ((wS b 64).getD i 0)) := fun i h => scB_at b h
    have hl64 := scB_len b 64 (Nat.le_refl _)
    generalize scB b 64 = W at *
    repeat' (first
      | ((first
      | ((with_reducible apply AP.k_any); first
              | refine AP.S ?_
              | refine AP.E ?_
              | refine AP.T ?_
              | refine AP.A ?_ | refine AP.AB 0 ?_ | refine AP.AB 1 ?_ | refine AP.AL ?_
              | refine AP.LB ?_ | refine AP.TB ?_ | refine AP.IX ?_ | refine AP.SF ?_ | refine AP.SV ?_ | refine AP.CV ?_ | refine AP.CO ?_ | refine AP.FV ?_  | refine AP.PF ?_)
        | ((with_reducible apply DW.k_any); first
          | refine DW.R ?_ | refine DW.R' ?_ | refine DW.W ?_ | refine DW.W' ?_ | refine DW.RA ?_ | refine DW.A 0 ?_ | refine DW.A 1 ?_ | refine DW.A 2 ?_ | refine DW.A' 0 ?_ | refine DW.A' 2 ?_ | ((fail_if_success refine DW.known rfl ?_); refine DW.G (fun hg => ?_) (fun hg => ?_))
          | refine DW.RX ?_ | refine DW.WX ?_ | refine DW.WX' ?_)
      | ((with_reducible apply DW.k_any); first
                  | refine DW.R ?_ | refine DW.R' ?_ | refine DW.W ?_ | refine DW.W' ?_
                  | (refine DW.known rfl ?_; (with_reducible first | apply DW.sx 2 | apply DW.sxN 2); (iterate 2 (focus (simp only [ft, nm, Nat.reduceAdd, Nat.reduceBEq, List.getElem?_cons_zero, List.getElem?_cons_succ]; exact rfl))); (focus (intro X V; simp only [ft, nm, Nat.reduceAdd, Nat.reduceBEq]; (try (refine AP.Y ?_; dsimp only)); (first  | fail); (try simp only [nx, Nat.reduceAdd, Nat.reduceSub, BEq.rfl]); refine AP.nil ?_; (first | refine ⟨trivial, rfl, ?_⟩ | refine ⟨rfl, rfl, ?_⟩); (repeat' (first | exact Mg.nil | apply Mg.keep rfl | apply Mg.take rfl)); done)); (focus (refine Exists.intro (fun _ => 0) ?_; apply Exists.intro; (repeat' (first | exact Mg.nil | apply Mg.keep rfl | apply Mg.take rfl)); done)); (iterate 2 (focus (exact rfl))))
                  | ((fail_if_success refine DW.known rfl ?_); refine DW.G (fun hg => ?_) (fun hg => ?_))
      )
      ) <;> (try simp only [oc_Q4, nx, q4, rn, fq, Nat.mul_one, Bool.and_true, Bool.and_false, Nat.reduceBEq, Nat.reduceAdd, Nat.reduceSub, BEq.rfl]))
      | ((with_reducible apply AP.k_nil); first | (refine AP.nil (hQ' _ ?_); clear hQ' Q') | refine AP.nil ?_)
      | ((with_reducible apply CP.k_drw); refine cp_drwX fun Q' hQ' => ?_)
      | ((with_reducible apply CP.k_drw1); refine cp_drawX ?_)
      | ((with_reducible apply DW.k_nil); refine DW.nl ?_; first | (refine hQ' _ ?_; clear hQ' Q') | skip)
      | ((with_reducible apply CP.k_reg); refine cp_regG fun Q' hQ' => ?_)
        | (with_reducible apply CP.k_reg1; refine cp_region ?_)
        | ((with_reducible apply CP.k_cond); first | refine cp_condT rfl ?_ | refine cp_condF rfl ?_ | refine cp_cond rfl (fun hc => ?_) (fun hc => ?_))
        | refine CP.go ?_
        | (simp only [List.append_eq, List.cons_append, List.nil_append]))
    have hgk : ∀ i, i < 64 → (K32.map Q4)[i]? = some (Q4 (K32.getD i 0)) := fun i h => K32_at h
    generalize K32.map Q4 = KK at *
    refine cp_loopS [8, 9, 10, 11, 12, 13, 55, 56, 57, 58, 59, 60, 61, 62, 63, 64, 65, 66, 67, 68, 69, 70, 71, 72, 73, 74, 75, 76, 77, 78, 79, 80, 81, 82, 83, 84, 85, 86, 87, 88, 89, 90, 91, 92, 93, 94, 95, 96, 97, 98, 99, 100, 101, 102, 103, 104, 105, 106, 107, 108, 109, 110, 111, 112, 113, 114, 115] (fun a : Nat => 64 - a) (fun a => a ≤ 64) (fun a => [(55, I a)]) (fun a => [(3, ⟨1, .c 136 (e8 (rS n b a))⟩)]) 0 (Nat.zero_le _) (by exact Gh.W) ?_
    clear hk hlt hi
    intro i hi
    simp only [setT, deT, setB, List.set_cons_succ, List.set_cons_zero]
    by_cases hlt : i < 64
    · have hw : IntKind.i64.wrap ((i : Int) + 1) = ((i + 1 : Nat) : Int) := wrap_i64 (by omega) (by omega)
      have d64 : decide ((i : Int) < 64) = true := by simp; omega
      have hr : rS n b (i + 1) = rnd (rS n b i) (K32.getD i 0) ((wS b 64).getD i 0) := rfl
      have gk := hgk i hlt
      have gw := hgw i hlt
      generalize rS n b i = s at *
      generalize K32.getD i 0 = k at *
      generalize (wS b 64).getD i 0 = w at *
      have h1 := turned_ac s.e 6 11 25 (by omega) (by omega) (by omega)
      have h2 := turned_ac s.a 2 13 22 (by omega) (by omega) (by omega)
      repeat' (first
        | ((first
        | ((with_reducible apply AP.k_any); first
                | refine AP.S ?_
                | refine AP.E ?_
                | refine AP.T ?_
                | refine AP.A ?_ | refine AP.AB 0 ?_ | refine AP.AB 1 ?_ | refine AP.AL ?_
                | refine AP.LB ?_ | refine AP.TB ?_ | refine AP.IX ?_ | refine AP.SF ?_ | refine AP.SV ?_ | refine AP.CV ?_ | refine AP.CO ?_ | refine AP.FV ?_ | ((with_reducible apply AP.k_any); refine AP.C (h1) ?_) | ((with_reducible apply AP.k_any); refine AP.C (h2) ?_) | refine AP.PF ?_)
          | ((with_reducible apply DW.k_any); first
            | refine DW.R ?_ | refine DW.R' ?_ | refine DW.W ?_ | refine DW.W' ?_ | refine DW.RA ?_ | refine DW.A 0 ?_ | refine DW.A 1 ?_ | refine DW.A 2 ?_ | refine DW.A' 0 ?_ | refine DW.A' 2 ?_ | ((fail_if_success refine DW.known rfl ?_); refine DW.G (fun hg => ?_) (fun hg => ?_))
            | refine DW.RX ?_ | refine DW.WX ?_ | refine DW.WX' ?_)
        | ((with_reducible apply DW.k_any); first
                    | refine DW.R ?_ | refine DW.R' ?_ | refine DW.W ?_ | refine DW.W' ?_
                    | (refine DW.known rfl ?_; (with_reducible first | apply DW.sx 2 | apply DW.sxN 2); (iterate 2 (focus (simp only [ft, nm, Nat.reduceAdd, Nat.reduceBEq, List.getElem?_cons_zero, List.getElem?_cons_succ]; exact rfl))); (focus (intro X V; simp only [ft, nm, Nat.reduceAdd, Nat.reduceBEq]; (try (refine AP.Y ?_; dsimp only)); (first | ((with_reducible apply AP.k_any); refine AP.C (h1) ?_) | ((with_reducible apply AP.k_any); refine AP.C (h2) ?_) | fail); (try simp only [nx, Nat.reduceAdd, Nat.reduceSub, BEq.rfl]); refine AP.nil ?_; (first | refine ⟨trivial, rfl, ?_⟩ | refine ⟨rfl, rfl, ?_⟩); (repeat' (first | exact Mg.nil | apply Mg.keep rfl | apply Mg.take rfl)); done)); (focus (refine Exists.intro (fun _ => 0) ?_; apply Exists.intro; (repeat' (first | exact Mg.nil | apply Mg.keep rfl | apply Mg.take rfl)); done)); (iterate 2 (focus (exact rfl))))
                    | ((fail_if_success refine DW.known rfl ?_); refine DW.G (fun hg => ?_) (fun hg => ?_))
        )
        ) <;> (try simp only [d64, cpy, Int.reduceToNat, Nat.reduceMul, Nat.zero_add, Nat.min_self, List.take_succ_cons, List.take_zero, List.drop_succ_cons, List.drop_zero, List.cons_append, List.nil_append, List.append_nil, List.length_cons, List.length_nil, nx, q4, rn, fq, Nat.mul_one, Bool.and_true, Bool.and_false, Nat.reduceBEq, Nat.reduceAdd, Nat.reduceSub, BEq.rfl]))
        | ((with_reducible apply AP.k_nil); first | (refine AP.nil (hQ' _ ?_); clear hQ' Q') | refine AP.nil ?_)
        | ((with_reducible apply CP.k_drw); refine cp_drwX fun Q' hQ' => ?_)
        | ((with_reducible apply CP.k_drw1); refine cp_drawX ?_)
        | ((with_reducible apply DW.k_nil); refine DW.nl ?_; first | (refine hQ' _ ?_; clear hQ' Q') | skip)
        | ((with_reducible apply CP.k_reg); refine cp_regG fun Q' hQ' => ?_)
          | (with_reducible apply CP.k_reg1; refine cp_region ?_)
          | ((with_reducible apply CP.k_cond); first | refine cp_condT rfl ?_ | refine cp_condF rfl ?_ | refine cp_cond rfl (fun hc => ?_) (fun hc => ?_))
          | refine CP.go ?_
          | (simp only [List.append_eq, List.cons_append, List.nil_append]))
      simp only [hw]
      exact ⟨i + 1, by omega, by omega, by (rw [hr]; exact Gh.W)⟩
    · obtain rfl : i = 64 := by omega
      have hbl : blockS n b = ⟨n.a + (rS n b 64).a, n.b + (rS n b 64).b, n.c + (rS n b 64).c, n.d + (rS n b 64).d, n.e + (rS n b 64).e, n.f + (rS n b 64).f, n.g + (rS n b 64).g, n.h + (rS n b 64).h⟩ := rfl
      generalize rS n b 64 = s at *
      rw [hbl]
      repeat' (first
        | ((first
        | ((with_reducible apply AP.k_any); first
                | refine AP.S ?_
                | refine AP.E ?_
                | refine AP.T ?_
                | refine AP.A ?_ | refine AP.AB 0 ?_ | refine AP.AB 1 ?_ | refine AP.AL ?_
                | refine AP.LB ?_ | refine AP.TB ?_ | refine AP.IX ?_ | refine AP.SF ?_ | refine AP.SV ?_ | refine AP.CV ?_ | refine AP.CO ?_ | refine AP.FV ?_  | refine AP.PF ?_)
          | ((with_reducible apply DW.k_any); first
            | refine DW.R ?_ | refine DW.R' ?_ | refine DW.W ?_ | refine DW.W' ?_ | refine DW.RA ?_ | refine DW.A 0 ?_ | refine DW.A 1 ?_ | refine DW.A 2 ?_ | refine DW.A' 0 ?_ | refine DW.A' 2 ?_ | ((fail_if_success refine DW.known rfl ?_); refine DW.G (fun hg => ?_) (fun hg => ?_))
            | refine DW.RX ?_ | refine DW.WX ?_ | refine DW.WX' ?_)
        | ((with_reducible apply DW.k_any); first
                    | refine DW.R ?_ | refine DW.R' ?_ | refine DW.W ?_ | refine DW.W' ?_
                    | (refine DW.known rfl ?_; (with_reducible first | apply DW.sx 2 | apply DW.sxN 2); (iterate 2 (focus (simp only [ft, nm, Nat.reduceAdd, Nat.reduceBEq, List.getElem?_cons_zero, List.getElem?_cons_succ]; exact rfl))); (focus (intro X V; simp only [ft, nm, Nat.reduceAdd, Nat.reduceBEq]; (try (refine AP.Y ?_; dsimp only)); (first  | fail); (try simp only [nx, Nat.reduceAdd, Nat.reduceSub, BEq.rfl]); refine AP.nil ?_; (first | refine ⟨trivial, rfl, ?_⟩ | refine ⟨rfl, rfl, ?_⟩); (repeat' (first | exact Mg.nil | apply Mg.keep rfl | apply Mg.take rfl)); done)); (focus (refine Exists.intro (fun _ => 0) ?_; apply Exists.intro; (repeat' (first | exact Mg.nil | apply Mg.keep rfl | apply Mg.take rfl)); done)); (iterate 2 (focus (exact rfl))))
                    | ((fail_if_success refine DW.known rfl ?_); refine DW.G (fun hg => ?_) (fun hg => ?_))
        )
        ) <;> (try simp only [ nx, q4, rn, fq, Nat.mul_one, Bool.and_true, Bool.and_false, Nat.reduceBEq, Nat.reduceAdd, Nat.reduceSub, BEq.rfl]))
        | ((with_reducible apply AP.k_nil); first | (refine AP.nil (hQ' _ ?_); clear hQ' Q') | refine AP.nil ?_)
        | ((with_reducible apply CP.k_drw); refine cp_drwX fun Q' hQ' => ?_)
        | ((with_reducible apply CP.k_drw1); refine cp_drawX ?_)
        | ((with_reducible apply DW.k_nil); refine DW.nl ?_; first | (refine hQ' _ ?_; clear hQ' Q') | skip)
        | ((with_reducible apply CP.k_reg); refine cp_regG fun Q' hQ' => ?_)
          | (with_reducible apply CP.k_reg1; refine cp_region ?_)
          | ((with_reducible apply CP.k_cond); first | refine cp_condT rfl ?_ | refine cp_condF rfl ?_ | refine cp_cond rfl (fun hc => ?_) (fun hc => ?_))
          | refine CP.go ?_
          | (simp only [List.append_eq, List.cons_append, List.nil_append]))
      refine cp_rounds 9 ?_
      repeat' (first
        | ((first
        | ((with_reducible apply AP.k_any); first
                | refine AP.S ?_
                | refine AP.E ?_
                | refine AP.T ?_
                | refine AP.A ?_ | refine AP.AB 0 ?_ | refine AP.AB 1 ?_ | refine AP.AL ?_
                | refine AP.LB ?_ | refine AP.TB ?_ | refine AP.IX ?_ | refine AP.SF ?_ | refine AP.SV ?_ | refine AP.CV ?_ | refine AP.CO ?_ | refine AP.FV ?_  | refine AP.PF ?_)
          | ((with_reducible apply DW.k_any); first
            | refine DW.R ?_ | refine DW.R' ?_ | refine DW.W ?_ | refine DW.W' ?_ | refine DW.RA ?_ | refine DW.A 0 ?_ | refine DW.A 1 ?_ | refine DW.A 2 ?_ | refine DW.A' 0 ?_ | refine DW.A' 2 ?_ | ((fail_if_success refine DW.known rfl ?_); refine DW.G (fun hg => ?_) (fun hg => ?_))
            | refine DW.RX ?_ | refine DW.WX ?_ | refine DW.WX' ?_)
        | ((with_reducible apply DW.k_any); first
                    | refine DW.R ?_ | refine DW.R' ?_ | refine DW.W ?_ | refine DW.W' ?_
                    | (refine DW.known rfl ?_; (with_reducible first | apply DW.sx 2 | apply DW.sxN 2); (iterate 2 (focus (simp only [ft, nm, Nat.reduceAdd, Nat.reduceBEq, List.getElem?_cons_zero, List.getElem?_cons_succ]; exact rfl))); (focus (intro X V; simp only [ft, nm, Nat.reduceAdd, Nat.reduceBEq]; (try (refine AP.Y ?_; dsimp only)); (first  | fail); (try simp only [nx, Nat.reduceAdd, Nat.reduceSub, BEq.rfl]); refine AP.nil ?_; (first | refine ⟨trivial, rfl, ?_⟩ | refine ⟨rfl, rfl, ?_⟩); (repeat' (first | exact Mg.nil | apply Mg.keep rfl | apply Mg.take rfl)); done)); (focus (refine Exists.intro (fun _ => 0) ?_; apply Exists.intro; (repeat' (first | exact Mg.nil | apply Mg.keep rfl | apply Mg.take rfl)); done)); (iterate 2 (focus (exact rfl))))
                    | ((fail_if_success refine DW.known rfl ?_); refine DW.G (fun hg => ?_) (fun hg => ?_))
        )
        ) <;> (try simp only [wrap_lit, Int.reduceAdd, Int.reduceLE, Int.reduceLT, Int.reduceNeg, Int.reduceToNat, Nat.reduceMul, decide_true, decide_false, Nat.zero_add, List.set_cons_succ, List.set_cons_zero, nx, q4, rn, fq, Nat.mul_one, Bool.and_true, Bool.and_false, Nat.reduceBEq, Nat.reduceAdd, Nat.reduceSub, BEq.rfl]))
        | ((with_reducible apply AP.k_nil); first | (refine AP.nil (hQ' _ ?_); clear hQ' Q') | refine AP.nil ?_)
        | ((with_reducible apply CP.k_drw); refine cp_drwX fun Q' hQ' => ?_)
        | ((with_reducible apply CP.k_drw1); refine cp_drawX ?_)
        | ((with_reducible apply DW.k_nil); refine DW.nl ?_; first | (refine hQ' _ ?_; clear hQ' Q') | skip)
        | ((with_reducible apply CP.k_reg); refine cp_regG fun Q' hQ' => ?_)
          | (with_reducible apply CP.k_reg1; refine cp_region ?_)
          | ((with_reducible apply CP.k_cond); first | refine cp_condT rfl ?_ | refine cp_condF rfl ?_ | refine cp_cond rfl (fun hc => ?_) (fun hc => ?_))
          | refine CP.go ?_
          | (simp only [List.append_eq, List.cons_append, List.nil_append]))
      (exact RetQ.A [] (by exact ⟨rfl, rfl⟩))
end Go.Proofs.Ytnjfchigdpifmaa

namespace Go.Proofs.Ytnjfchigdpifmaa
set_option linter.unusedVariables false
set_option linter.unusedSimpArgs false
open Go.RowKit
set_option maxRecDepth 100000
/-- what the other side holds outlives this side's own doings -/
def Jcl (J : Jt) : Prop := ∀ (w w' : World) (L L' : Ct) (R R' : Nat → Prop), J w L R → Fr w w' L → (∀ x, L' x ≤ 1) → (∀ x, L' x ≠ 0 → x < w'.heap.size ∧ (L x ≠ 0 ∨ w.heap.size ≤ x)) → (∀ x, R x → R' x) →
  (∀ x, R' x → x < w'.heap.size ∧ L' x = 0 ∧ (R x ∨ L x ≠ 0 ∨ w.heap.size ≤ x)) → J w' L' R'
abbrev noφ : Fi := fun _ _ => none
abbrev noκ : Ka := fun _ _ => none
/-- a round: from J to J', or out of the loop, to Jx -/
def Yok (P : Program) (l : Nat) (J : Jt) (y : List AV) (J' Jx : Jt) : Prop := ∀ (w : World) (L : Ct) (R : Nat → Prop) (vs : List Value), J w L R → RC w noφ noκ R y vs Ct.z →
  YieldAt Fence.wide 0 P l vs.toArray w fun e w' => ∃ b : Bool, e = .returned (.bool b) ∧ (match b with | true => J' | false => Jx) w' L R ∧ w.heap.size ≤ w'.heap.size ∧ ∀ x, x < w.heap.size → L x ≠ 0 ∨ R x → w'.heap[x]? = w.heap[x]?
/-- what an iteration hands over, one behind the other -/
def IC (P : Program) (g : Nat) (cap : List AV) (bs : List Bx) (ys : List (List AV)) : Prop :=
  (∀ (xs : Array Value) (w : World), (callFunc g xs).run P w = .ok (.enter g xs) w) ∧
  ∀ (l : Nat) (J : Nat → Jt) (Jx : Jt), (∀ i, Jcl (J i)) → Jcl Jx → (∀ (i : Nat) (y : List AV), ys[i]? = some y → Yok P l (J i) y (J (i + 1)) Jx) →
  ∀ (w : World) (φ : Fi) (κ : Ka) (R : Nat → Prop) (vs : List Value) (gs : List Nat) (Sa Sb : Ct),
    RC w φ κ R cap vs Sa → RXs w R bs gs Sb → (∀ (i g : Nat), gs[i]? = some g → φ i 0 = some g) → (∀ (i v : Nat), (bs.length ≤ i ∨ 0 < v) → φ i v = none) → (∀ (i v : Nat), κ i v = none) →
    (∀ x, Sa x + Sb x ≤ 1) → (∀ x, Sa x + Sb x ≠ 0 → x < w.heap.size) → (∀ x, R x → x < w.heap.size ∧ Sa x + Sb x = 0) → J 0 w (fun x => Sa x + Sb x) R →
    Calls P g (.func (.yield l) #[] #[] :: vs).toArray w fun e w' => ∃ v L' R', e = .returned v ∧ (J ys.length w' L' R' ∨ Jx w' L' R')
/-! what is handed to a round reads alone -/
def AV.fre : AV → Bool
  | .ag l => l.all AV.leaf
  | a => a.leaf
inductive Yv : AV → AV → Prop
  | same {a} : a.fre = true → Yv a a
  | nl {o k} : Yv (.sc (.slice none 0 0)) (.sl o k [])
  | fs {k s} : Yv (.fs k s) (.sl none k s)
inductive YvL : List AV → List AV → Prop
  | nil : YvL [] []
  | cons {a a' l l'} : Yv a a' → YvL l l' → YvL (a :: l) (a' :: l')
section
variable {w : World} {φ : Fi} {κ : Ka} {R : Nat → Prop}
theorem Yv.rv : ∀ {a a' : AV}, Yv a a' → ∀ {v : Value}, RV w φ κ R a v Ct.z → RV w noφ noκ R a' v Ct.z
  | _, _, .same (a := a) h, v, hr => by
    by_cases hag : ∃ l, a = .ag l
    · obtain ⟨l, rfl⟩ := hag
      cases hr with
      | ag h1 h2 => exact .ag (RC.any _ _ h1 fun x hx => List.all_eq_true.1 h x hx) h2
    · refine RV.any _ _ hr ?_
      cases a <;> first | exact h | exact absurd ⟨_, rfl⟩ hag
  | _, _, .nl, v, hr => by cases hr; exact .ni
  | _, _, .fs, v, hr => by
    generalize hz : Ct.z = Z at hr ⊢
    cases hr with
    | fs h1 _ => exact RV.any _ _ h1 rfl
theorem YvL.rc : ∀ {l l' : List AV}, YvL l l' → ∀ {vs : List Value}, RC w φ κ R l vs Ct.z → RC w noφ noκ R l' vs Ct.z
  | _, _, .nil, _, h => by cases h; exact .nil
  | _, _, .cons h k, _, hr => by
    cases hr with
    | cons h1 h2 h3 =>
      obtain ⟨rfl, rfl⟩ := Ct.split h3
      exact .cons (S := Ct.z) (T := Ct.z) (h.rv h1) (k.rc h2) fun _ => rfl
end
/-- but for number k nothing of the other side -/
def ny1 (k : Nat) : Nat → List Sl → Bool
  | _, [] => true
  | n, e :: l => (match Nat.beq n k with | true => true | false => !e.b.isY) && ny1 k (n + 1) l
theorem ny1_at {k : Nat} : ∀ {l : List Sl} {n i u : Nat} {J : Jt}, ny1 k n l = true → l[i]? = some ⟨u, .y J⟩ → n + i = k
  | [], _, _, _, _, _, h => by simp at h
  | e :: l, n, 0, u, J, h, hi => by
    simp at hi; subst hi
    simp only [ny1, Bool.and_eq_true] at h
    rw [Nat.add_zero]
    cases hn : Nat.beq n k with
    | true => exact Nat.eq_of_beq_eq_true hn
    | false => have := h.1; rw [hn] at this; cases this
  | e :: l, n, i + 1, u, J, h, hi => by
    simp only [ny1, Bool.and_eq_true] at h
    have := ny1_at (i := i) h.2 (by simpa using hi)
    omega
section
variable {P : Program} {X : Cx} {s : AS} {ops : Array Oper} {rest : List Oper} {o : Oper} {Q : Exit → AS → Prop}
/-- what the other side holds, here and now -/
theorem SatW.hold {φ : Fi} {κ : Ka} {f : Nat → Ct} {a : Act} {w : World} (h : SatW X φ κ f Ct.z s a w) {k u : Nat} {J : Jt} (hk : s.b[k]? = some ⟨u, .y J⟩) (hcl : Jcl J) : J w (sumF f s.b.length) X.R := by
  obtain ⟨R0, h1, h2, h3⟩ := h.df.yd k u J hk
  refine hcl _ _ _ _ _ _ h1 h.fr (fun x => by have := h.one x; simp only [Ct.z] at this; omega) (fun x hx => h.own x (by simp only [Ct.z]; omega)) h2 fun x hx => ?_
  have := h.rd x hx
  simp only [Ct.z] at this
  exact ⟨this.1, by omega, h3 x hx⟩
/-- ONE IS HANDED OVER: a round of the other side -/
theorem ap_yield {l k u : Nat} {J J' Jx : Jt} {y : List AV} {fo : Operand} {xs : Array Operand} {tys : Array TypeId} (hg : o.guard = none) (ho : o.op = .call { callee := .value fo, args := xs, argTypes := tys }) (hfo : aev s fo = .sc (.func (.yield l) #[] #[]))
    (hk : s.b[k]? = some ⟨u, .y J⟩) (hn : ny1 k 0 s.b = true) (hcl : Jcl J) (hY : Yok P l J y J' Jx) (hy : YvL (xs.toList.map (aev s)) y) (hyl : X.yl = true) (hρ : X.ρ = none)
    (K1 : AP P X ops Q rest (AS.put ⟨s.t, s.b.set k ⟨u, .y J'⟩⟩ o.dst (.sc (.bool true)))) (K2 : AP P X ops Q rest (AS.put ⟨s.t, s.b.set k ⟨u, .y Jx⟩⟩ o.dst (.sc (.bool false)))) : AP P X ops Q (o :: rest) s := by
  rintro a w ⟨X0, φ, κ, f, hX0, h⟩
  refine wpL_plain hg fun K' hK' => ?_
  have hJ := h.hold hk hcl
  have hrc := hy.rc (h.evl xs.toList)
  obtain ⟨fn, tmps, assign, body, hrun, hR⟩ := hY w _ _ _ hJ hrc
  have hfv := h.evc hfo
  have hex : (execOp a.eval o).run P w = .ok (.round l fn tmps assign body) w := by
    have e0 : (xs.toList.map a.eval).toArray = xs.map a.eval := by cases xs; simp
    rw [e0] at hrun
    simp only [execOp, ho, resolve, Deferred.ofValue, hfv, Sem.run_bind, Sem.run_pure, Result.andThen_ok, invoke, Array.empty_append]
    exact hrun
  have hkl := (List.getElem?_eq_some_iff.1 hk).1
  refine ⟨fun _ _ => Fw_fn _ _, ?_⟩
  rw [semAt_of hex (fun d => by simp)]
  refine ⟨fun hd => (by rw [Fw_depth] at hd; simp at hd), ?_⟩
  rw [hρ]
  refine hR.mono ?_
  rintro e w' ⟨b, rfl, hJ', hsz, hkeep⟩
  refine hK' _ _ ?_
  have hR' : ∀ x, X0.R x → w'.heap[x]? = w.heap[x]? := fun x hx => hkeep x (h.rd x hx).1 (.inr hx)
  have hL' : ∀ i, i < s.b.length → ∀ x, f i x ≠ 0 → w'.heap[x]? = w.heap[x]? := fun i hi x hx => by
    have h1 := sumF_le f x _ i hi
    exact hkeep x (h.own x (by omega)).1 (.inl (by omega))
  have hz : f k = Ct.z := by
    have := h.sl k _ hk
    generalize f k = S at this
    cases this; rfl
  have main : ∀ JJ : Jt, JJ w' (sumF f s.b.length) X0.R → ∃ X2, X.le X2 ∧ SatW X2 φ κ f Ct.z ⟨s.t, s.b.set k ⟨u, .y JJ⟩⟩ a w' := fun JJ hJJ => by
    refine ⟨⟨X0.R, w', sumF f s.b.length, X0.g0, X0.p0, X0.q0, X0.ρ, X0.yl, X0.dB, X0.mks⟩, hX0.trans ⟨fun e => (by rw [hX0.yl, hyl] at e; cases e), rfl, rfl, rfl, rfl, rfl, rfl, rfl, fun _ h => h⟩, ?_⟩
    exact
      { tm := RC.keep hR' h.tm fun x hx => absurd rfl hx
        df := by
          obtain ⟨d0, Ds, d1, d2, d3⟩ := h.df.df
          refine ⟨⟨Nat.le_trans d0 hsz, Ds, d1, d2, fun D hD => ⟨(d3 D hD).1, (d3 D hD).2.1, (hR' D (d3 D hD).2.1).trans (d3 D hD).2.2⟩⟩, fun i v J2 hi => ?_⟩
          by_cases hik : i = k
          · subst hik
            rw [List.getElem?_set_self hkl] at hi
            injection hi with hi; injection hi with _ hi; injection hi with hi; subst hi
            exact ⟨X0.R, hJJ, fun _ h => h, fun x hx => .inl hx⟩
          · rw [List.getElem?_set_ne (Ne.symm hik)] at hi
            have := ny1_at hn hi
            omega
        sl := fun i e' hi => by
          by_cases hik : i = k
          · subst hik
            rw [List.getElem?_set_self hkl] at hi
            injection hi with hi; subst hi
            rw [hz]; exact .y
          · rw [List.getElem?_set_ne (Ne.symm hik)] at hi
            exact RS.keep hR' (h.sl i e' hi) (hL' i (List.getElem?_eq_some_iff.1 hi).1)
        one := fun x => by have := h.one x; simpa using this
        own := fun x hx => by
          simp only [List.length_set] at hx
          have := h.own x hx
          exact ⟨Nat.lt_of_lt_of_le this.1 hsz, .inl (by simp only [Ct.z] at hx; show sumF f s.b.length x ≠ 0; omega)⟩
        rd := fun x hx => by
          have := h.rd x hx
          simp only [List.length_set]
          exact ⟨Nat.lt_of_lt_of_le this.1 hsz, this.2⟩
        fr := Fr.refl _ _
        bas := h.bas
        new := fun i v hv => h.new i v fun e' he => by
          by_cases hik : i = k
          · subst hik
            rw [hk] at he; injection he with he; subst he
            exact hv ⟨u, .y JJ⟩ (List.getElem?_set_self hkl)
          · exact hv e' (by rw [List.getElem?_set_ne (Ne.symm hik)]; exact he) }
  cases b with
  | true =>
    obtain ⟨X2, hX2, h2⟩ := main J' hJ'
    exact K1 _ _ ⟨X2, φ, κ, f, hX2, h2.puts o.dst (.sc rfl)⟩
  | false =>
    obtain ⟨X2, hX2, h2⟩ := main Jx hJ'
    exact K2 _ _ ⟨X2, φ, κ, f, hX2, h2.puts o.dst (.sc rfl)⟩
end
/-- an iteration's end: all have been handed over, or the other side wants no more -/
def ItQ (n : Nat) (JJ Jx : Jt) : Exit → AS → Prop := fun e s => (e = .normal ∨ e = .ret) ∧ ∃ u J', s.b[n]? = some ⟨u, .y J'⟩ ∧ (J' = JJ ∨ J' = Jx)
theorem IC.enter {g : Nat} {F : Func} {c : Code} {nt : Nat} {cap : List AV} {bs : List Bx} {ys : List (List AV)} {b1 : Jt → List Sl} (hf : Try.prog.funcs[g]? = some F) (hb : F.body = some c) (hname : (F.name == "runtime.NumGoroutine") = false) (hnt : F.ntmps = nt) (hres : F.results.toList = [])
    (hfl : ∀ x ∈ cap, x.fl1) (hbk : ∀ J, Bk (List.replicate bs.length ⟨0, .o⟩ ++ [⟨0, .y J⟩]) ((List.range bs.length).map fun i => (i, 0)) bs (b1 J))
    (K : ∀ (X : Cx) (l : Nat) (J : Nat → Jt) (Jx : Jt), X.ρ = none → X.yl = true → (∀ i, Jcl (J i)) → Jcl Jx → (∀ (i : Nat) (y : List AV), ys[i]? = some y → Yok Try.prog l (J i) y (J (i + 1)) Jx) →
      CP Try.prog X c (ItQ bs.length (J ys.length) Jx) ⟨.sc (.func (.yield l) #[] #[]) :: ((opnL cap (b1 (J 0))).1 ++ List.replicate (nt - (cap.length + 1)) (.tu [])), (opnL cap (b1 (J 0))).2⟩) : IC Try.prog g cap bs ys := by
  refine ⟨fun xs w => ?_, ?_⟩
  · have hn : ¬ (F.name = "runtime.NumGoroutine") := by simpa using hname
    simp [callFunc, hf, hn, hb, go_sem, program, Sem.run, Sem.run_bind]
  intro l J Jx hJ hJx hY w φ κ R vs gs Sa Sb hr hrx hφ hφn hκn hone hown hR hJ0
  have hgl := hrx.length
  have hvl := hr.length
  refine callsIn_wide.1 (callsIn_of_wp_marks (F := Fence.wide) (n := 0) hf hb trivial ?_ rfl)
  rw [hnt]
  have hat : ({ tmps := (Value.func (.yield l) #[] #[] :: vs).toArray ++ Array.replicate (nt - (Value.func (.yield l) #[] #[] :: vs).toArray.size) undef, defers := [] } : Act).tmps.toList = .func (.yield l) #[] #[] :: (vs ++ List.replicate (nt - (cap.length + 1)) undef) := by simp [hvl]
  generalize hact : ({ tmps := (Value.func (.yield l) #[] #[] :: vs).toArray ++ Array.replicate (nt - (Value.func (.yield l) #[] #[] :: vs).toArray.size) undef, defers := [] } : Act) = a at *
  have h0 : SatW ⟨R, w, fun x => Sa x + Sb x, gs, fun _ _ => none, fun _ _ => none, none, true, w.heap.size, false⟩ φ κ (fun _ => Ct.z) (fun x => Sa x + Sb x) ⟨List.replicate a.tmps.toList.length .de, List.replicate bs.length ⟨0, .o⟩ ++ [⟨0, .y (J 0)⟩]⟩ a w :=
    { tm := RC.des _
      df := ⟨⟨Nat.le_refl _, [], by rw [← hact]; rfl, ⟨List.nodup_nil, fun _ => rfl⟩, fun _ h => by cases h⟩, fun i u JJ hi => by
        by_cases hil : i < bs.length
        · rw [List.getElem?_append_left (by simpa using hil), List.getElem?_replicate, if_pos hil] at hi
          cases hi
        · have hie : i = bs.length := by have := (List.getElem?_eq_some_iff.1 hi).1; simp at this; omega
          subst hie
          rw [List.getElem?_append_right (by simp)] at hi
          simp at hi
          obtain ⟨_, rfl⟩ := hi
          exact ⟨R, hJ0, fun _ h => h, fun x hx => .inl hx⟩⟩
      sl := fun i e he => by
        by_cases hil : i < bs.length
        · rw [List.getElem?_append_left (by simpa using hil), List.getElem?_replicate, if_pos hil] at he
          injection he with he; subst he; exact .o
        · have hie : i = bs.length := by have := (List.getElem?_eq_some_iff.1 he).1; simp at this; omega
          subst hie
          rw [List.getElem?_append_right (by simp)] at he
          simp at he
          subst he
          exact .y
      one := fun x => by rw [sumF_z]; have := hone x; omega
      own := fun x hx => by rw [sumF_z] at hx; exact ⟨hown x (by omega), .inl (by show Sa x + Sb x ≠ 0; omega)⟩
      rd := fun x hx => by rw [sumF_z]; have := hR x hx; exact ⟨this.1, by (try dsimp only); omega⟩
      fr := Fr.refl _ _
      bas := ⟨hφ, (fun _ _ _ h => by cases h), fun _ _ _ h => by cases h⟩
      new := fun i v hv => by
        refine ⟨hφn i v ?_, hκn i v⟩
        by_cases hi : i < bs.length
        · have := hv ⟨0, .o⟩ (by rw [List.getElem?_append_left (by simpa using hi), List.getElem?_replicate, if_pos hi]); exact .inr this
        · exact .inl (by omega) }
  obtain ⟨φ1, κ1, f1, e1, e2, e3⟩ := SatW.bk (hbk (J 0)) (L' := Sa) h0 hrx (fun x => by (try dsimp only); omega) (fun i k u hi => by
    simp only [List.getElem?_map, Option.map_eq_some_iff] at hi
    obtain ⟨j, hj, hjk⟩ := hi
    obtain ⟨hlt, he⟩ := List.getElem?_eq_some_iff.1 hj
    simp at hlt he
    subst he
    injection hjk with e1 e2
    subst e1 e2
    have hg : gs[i]? = some (gs[i]'(by omega)) := List.getElem?_eq_getElem (by omega)
    exact ⟨_, hg, hφ _ _ hg⟩)
  obtain ⟨φ2, κ2, f2, e4, e5, e6, e7⟩ := e3.opnL_ (L' := Ct.z) (RC.hist e1 e2 (fun _ h => h) hr) (fun x => by simp [Ct.z]) hfl
  have h1 : Sat ⟨R, w, fun x => Sa x + Sb x, gs, fun _ _ => none, fun _ _ => none, none, true, w.heap.size, false⟩ ⟨.sc (.func (.yield l) #[] #[]) :: ((opnL cap (b1 (J 0))).1 ++ List.replicate (nt - (cap.length + 1)) (.tu [])), (opnL cap (b1 (J 0))).2⟩ a w :=
    ⟨_, φ2, κ2, f2, .rfl, e7.retm (by rw [hat]; exact .cons (S := Ct.z) (T := Ct.z) (.sc rfl) (e6.append (RC.und _) fun _ => rfl) fun _ => rfl) rfl⟩
  refine wpIn_mono (K _ l J Jx rfl rfl hJ hJx hY a w h1) ?_
  rintro e a0 w0 ⟨s', ⟨hE, u, J', hJ', hj⟩, X3, φ3, κ3, f3, hX3, h30⟩
  obtain ⟨Ds, hDs, hnd, hDn, hDm, h3⟩ := h30.shut (fun h => by rw [hX3.mks] at h; cases h)
  obtain rfl := hDn hX3.mks
  have hw' : Go.Proofs.Ytnjfchigdpifmaa.shut w0 [] = w0 := rfl
  rw [hw'] at h3
  have hcl : Jcl J' := by rcases hj with rfl | rfl; exact hJ _; exact hJx
  have hold := h3.hold hJ' hcl
  obtain ⟨v, hv, hrun⟩ := run_results (F := F) (l := []) h3 (by rw [hres]; exact .nil)
  have hfin : ∀ R : Ending → World → Prop, R (.returned v) w0 → LeavesInM Fence.wide 0 Try.prog F a0.tmps R a0.defers .returning w0 := fun R hR => by
    rw [hDs]
    exact leaves_marks [] w0 hnd hDm ⟨v, hrun, hR⟩
  have hpost : ∃ v1 L' R', Ending.returned v = .returned v1 ∧ (J ys.length w0 L' R' ∨ Jx w0 L' R') :=
    ⟨v, _, _, rfl, by rcases hj with rfl | rfl; exact .inl hold; exact .inr hold⟩
  rcases hE with rfl | rfl
  · exact hfin _ hpost
  · exact hfin _ hpost
theorem AP.YI {X : Cx} {s : AS} {ops : Array Oper} {rest : List Oper} {o : Oper} {Q : Exit → AS → Prop} {l k u : Nat} {J J' Jx : Jt} {y : List AV} {fo : Operand} {xs : Array Operand} {tys : Array TypeId} (hY : Yok Try.prog l J y J' Jx) (K1 : AP Try.prog X ops Q rest (AS.put ⟨s.t, s.b.set k ⟨u, .y J'⟩⟩ o.dst (.sc (.bool true)))) (K2 : AP Try.prog X ops Q rest (AS.put ⟨s.t, s.b.set k ⟨u, .y Jx⟩⟩ o.dst (.sc (.bool false))))
    (hg : o.guard = none := by exact rfl) (ho : o.op = .call { callee := .value fo, args := xs, argTypes := tys } := by exact rfl) (hfo : aev s fo = .sc (.func (.yield l) #[] #[]) := by exact rfl)
    (hk : s.b[k]? = some ⟨u, .y J⟩ := by exact rfl) (hn : ny1 k 0 s.b = true := by exact rfl) (hcl : Jcl J := by assumption) (hy : YvL (xs.toList.map (aev s)) y := by (repeat' (first | exact YvL.nil | apply YvL.cons (Yv.same rfl) | apply YvL.cons Yv.nl | apply YvL.cons Yv.fs)); all_goals fail) (hyl : X.yl = true := by assumption) (hρ : X.ρ = none := by assumption) : AP Try.prog X ops Q (o :: rest) s :=
  ap_yield hg ho hfo hk hn hcl hY hy hyl hρ K1 K2
theorem IC.N {g : Nat} {F : Func} {c : Code} {nt : Nat} {cap : List AV} {bs : List Bx} {ys : List (List AV)} {b1 : Jt → List Sl} (hf : Try.prog.funcs[g]? = some F) (hnt : F.ntmps = nt)
    (K : ∀ (X : Cx) (l : Nat) (J : Nat → Jt) (Jx : Jt), X.ρ = none → X.yl = true → (∀ i, Jcl (J i)) → Jcl Jx → (∀ (i : Nat) (y : List AV), ys[i]? = some y → Yok Try.prog l (J i) y (J (i + 1)) Jx) →
      CP Try.prog X c (ItQ bs.length (J ys.length) Jx) ⟨.sc (.func (.yield l) #[] #[]) :: ((opnL cap (b1 (J 0))).1 ++ List.replicate (nt - (cap.length + 1)) (.tu [])), (opnL cap (b1 (J 0))).2⟩)
    (hb : F.body = some c := by exact rfl) (hname : (F.name == "runtime.NumGoroutine") = false := by exact rfl) (hres : F.results.toList = [] := by exact rfl) (hfl : ∀ x ∈ cap, x.fl1 := by exact fl1_all rfl) (hbk : ∀ J, Bk (List.replicate bs.length ⟨0, .o⟩ ++ [⟨0, .y J⟩]) ((List.range bs.length).map fun i => (i, 0)) bs (b1 J) := by (intro J; (repeat' (first | exact Bk.nil | apply Bk.cons rfl rfl rfl)); all_goals fail)) : IC Try.prog g cap bs ys := IC.enter hf hb hname hnt hres hfl hbk K
end Go.Proofs.Ytnjfchigdpifmaa

namespace Go.Proofs.Ytnjfchigdpifmaa
set_option linter.unusedVariables false
set_option linter.unusedSimpArgs false
open Go.RowKit
set_option maxRecDepth 100000
/-- nothing of the other side -/
def nyA (l : List Sl) : Bool := l.all fun e => !e.b.isY
theorem nyA_at {l : List Sl} (h : nyA l = true) {i u : Nat} {J : Jt} (hi : l[i]? = some ⟨u, .y J⟩) : False := by
  have := List.all_eq_true.1 h _ (List.mem_of_getElem? hi)
  cases this
/-- a walk of its own: what is held besides is out of sight -/
abbrev Cx.loc (X : Cx) (φ : Fi) (κ : Ka) (S : Ct) (w : World) (ρ : Option Nat) : Cx := ⟨X.R, w, S, [], φ, κ, ρ, false, X.dB, X.mks⟩
section
variable {X : Cx} {φ : Fi} {κ : Ka} {f : Nat → Ct} {L L' : Ct} {s : AS} {a : Act} {w w' : World}
theorem SatW.aside (h : SatW X φ κ f L s a w) (hn : nyA s.b = true) (ρ : Option Nat) {t : List AV} {a' : Act} (ht : RC w φ κ X.R t a'.tmps.toList Ct.z) (hd : a'.defers = [] ∨ a'.defers = a.defers) : Sat (X.loc φ κ (sumF f s.b.length) w ρ) ⟨t, s.b⟩ a' w :=
  ⟨_, φ, κ, f, .rfl,
    { tm := ht
      df := ⟨by
        obtain ⟨d0, Ds, d1, d2, d3⟩ := h.df.df
        rcases hd with hd | hd
        · exact ⟨d0, [], hd, ⟨List.nodup_nil, fun _ => rfl⟩, fun _ h => by cases h⟩
        · exact ⟨d0, Ds, hd.trans d1, d2, d3⟩, fun i u J hi => (nyA_at hn hi).elim⟩
      sl := h.sl
      one := fun x => by have := h.one x; simp only [Ct.z]; omega
      own := fun x hx => by simp only [Ct.z] at hx; exact ⟨(h.own x (by omega)).1, .inl (by show sumF f s.b.length x ≠ 0; omega)⟩
      rd := fun x hx => by have := h.rd x hx; exact ⟨this.1, by simp only [Ct.z]; omega⟩
      fr := Fr.refl _ _
      bas := ⟨(fun i g hi => by simp at hi), (fun _ _ _ h => h), fun _ _ _ h => h⟩
      new := h.new }⟩
/-- and in sight again -/
theorem SatW.back (h : SatW X φ κ f L s a w) {ρ : Option Nat} {s3 : AS} {a3 : Act} {w3 : World} (h3 : Sat (X.loc φ κ (sumF f s.b.length) w ρ) s3 a3 w3) (hn : nyA s3.b = true) :
    ∃ R3 φ3 κ3 f3, X.le (X.gr R3) ∧ SatW (X.gr R3) φ3 κ3 f3 L s3 a3 w3 ∧ (∀ b u g, φ b u = some g → φ3 b u = some g) ∧ (∀ b u v, κ b u = some v → κ3 b u = some v) ∧ (∀ x, X.R x → R3 x) ∧ w.heap.size ≤ w3.heap.size ∧ ∀ x, x < w.heap.size → L x ≠ 0 ∨ X.R x → w3.heap[x]? = w.heap[x]? := by
  obtain ⟨X3, φ3, κ3, f3, hX3, h3⟩ := h3
  obtain ⟨hw3, hS3, hdn⟩ := hX3.fx rfl
  have hdn : ∀ x, X3.R x → X.R x ∨ sumF f s.b.length x ≠ 0 ∨ w.heap.size ≤ x := hdn
  have hup : ∀ x, X.R x → X3.R x := hX3.up
  have hfr : Fr w w3 (sumF f s.b.length) := by have := h3.fr; rwa [hw3, hS3] at this
  have hown : ∀ x, sumF f3 s3.b.length x ≠ 0 → x < w3.heap.size ∧ (sumF f s.b.length x ≠ 0 ∨ w.heap.size ≤ x) := fun x hx => by
    have := h3.own x (by simp only [Ct.z]; omega)
    rwa [hS3, hw3] at this
  have hone : ∀ x, sumF f3 s3.b.length x ≤ 1 := fun x => by have := h3.one x; simp only [Ct.z] at this; omega
  have hL : ∀ x, L x ≠ 0 → x < w.heap.size ∧ sumF f s.b.length x = 0 := fun x hx => by have h1 := h.one x; have h2 := h.own x (by omega); exact ⟨h2.1, by omega⟩
  have hL3 : ∀ x, L x ≠ 0 → sumF f3 s3.b.length x = 0 := fun x hx => by have h1 := hL x hx; have h2 := hown x; omega
  have hup0 : ∀ x, sumF f s.b.length x ≠ 0 → X.S0 x ≠ 0 ∨ X.w0.heap.size ≤ x := fun x hx => (h.own x (by omega)).2
  have hsz := hfr.size
  have hsz0 := h.fr.size
  have hdn' : ∀ x, X3.R x → X.R x ∨ X.S0 x ≠ 0 ∨ X.w0.heap.size ≤ x := fun x hx => by
    rcases hdn x hx with h1 | h1 | h1
    · exact .inl h1
    · exact .inr (hup0 x h1)
    · exact .inr (.inr (by omega))
  have hφ : ∀ b u g, φ b u = some g → φ3 b u = some g := fun b u g hg => h3.bas.2.1 b u g (by rw [hX3.p0]; exact hg)
  have hκ : ∀ b u v, κ b u = some v → κ3 b u = some v := fun b u g hg => h3.bas.2.2 b u g (by rw [hX3.q0]; exact hg)
  refine ⟨X3.R, φ3, κ3, f3, Cx.le_gr hup hdn', ?_, hφ, hκ, hup, hsz, fun x hx hh => ?_⟩
  · exact
      { tm := h3.tm
        df := ⟨by have := h3.df.df; rw [hX3.dB, hX3.mks] at this; exact this, fun i u J hi => (nyA_at hn hi).elim⟩
        sl := h3.sl
        one := fun x => by
          have h1 := hone x
          have h2 := hL3 x
          have h4 := h.one x
          omega
        own := fun x hx => by
          by_cases h1 : sumF f3 s3.b.length x = 0
          · have h2 := h.own x (by omega); exact ⟨by omega, h2.2⟩
          · have h2 := hown x h1
            refine ⟨h2.1, ?_⟩
            rcases h2.2 with h4 | h4
            · exact hup0 x h4
            · exact .inr (by show X.w0.heap.size ≤ x; omega)
        rd := fun x hx => by
          have h1 := h3.rd x hx
          simp only [Ct.z] at h1
          refine ⟨h1.1, ?_⟩
          have h5 : L x = 0 := by
            rcases hdn x hx with h4 | h4 | h4
            · have := h.rd x h4; omega
            · have := h.one x; omega
            · have := hL x; omega
          omega
        fr := by
          have h1 := h.fr
          refine ⟨hfr.os.trans h1.os, hfr.tape.trans h1.tape, hfr.output.trans h1.output, Nat.le_trans h1.size hfr.size, fun b hb hS => ?_⟩
          have h2 := h.own b
          rw [hfr.block b (Nat.lt_of_lt_of_le hb h1.size) (by dsimp only at hb hS; omega)]
          exact h1.block b hb hS
        bas := ⟨fun i g hi => hφ _ _ _ (h.bas.1 i g hi), fun b u g hi => hφ _ _ _ (h.bas.2.1 b u g hi), fun b u g hi => hκ _ _ _ (h.bas.2.2 b u g hi)⟩
        new := h3.new }
  · refine hfr.block x hx ?_
    rcases hh with hh | hh
    · exact (hL x hh).2
    · have := h.rd x hh; omega
/-- a block that is held besides becomes another -/
theorem SatW.poke (h : SatW X φ κ f L s a w) {l : Nat} (o : Obj) (hl : L l ≠ 0) : SatW X φ κ f L s a (w.putObj l o) := by
  refine h.went ⟨rfl, rfl, rfl, by simp, fun b hb hL => World.putObj_heap_other (fun e => hl (e ▸ hL))⟩ (fun x => by have := h.one x; omega) fun x hx => ?_
  have := h.own x (by omega)
  exact ⟨by simp; exact this.1, .inl hx⟩
/-- another frame -/
theorem SatW.refr (h : SatW X φ κ f L s a w) {t : List AV} {a' : Act} (ht : RC w φ κ X.R t a'.tmps.toList Ct.z) (hd : Dfy X s.b a'.defers w) : SatW X φ κ f L ⟨t, s.b⟩ a' w :=
  { tm := ht, df := hd, sl := h.sl, one := h.one, own := h.own, rd := h.rd, fr := h.fr, bas := h.bas, new := h.new }
theorem RXs.keep {R : Nat → Prop} (hr : ∀ x, R x → w'.heap[x]? = w.heap[x]?) : ∀ {bs gs S}, RXs w R bs gs S → (∀ x, S x ≠ 0 → w'.heap[x]? = w.heap[x]?) → RXs w' R bs gs S
  | _, _, _, .nil, _ => .nil
  | _, _, _, .cons (S := S) (T := T) (.c (g := g) (S' := S') a b c d e) h1 h2, hS => .cons (.c ((hS g (by rw [h2, e]; simp)).trans a) (RC.keep hr b fun x hx => hS x (by rw [h2, e]; omega)) c d e) (RXs.keep hr h1 fun x hx => hS x (by rw [h2]; omega)) h2
end
/-- values put into slots -/
def putL : List AV → List Nat → List AV → List AV
  | t, p :: ps, v :: vs => putL (t.set p v) ps vs
  | t, _, _ => t
theorem RC.putL {w : World} {φ : Fi} {κ : Ka} {R : Nat → Prop} : ∀ (ps : List Nat) {t : List AV} {tmps : Array Value} {y : List AV} {vs : List Value}, RC w φ κ R t tmps.toList Ct.z → RC w φ κ R y vs Ct.z →
    RC w φ κ R (putL t ps y) ((ps.zip vs).foldl (fun t (p, v) => t.setIfInBounds p v) tmps).toList Ct.z
  | [], _, _, _, _, h, _ => by simpa [Go.Proofs.Ytnjfchigdpifmaa.putL] using h
  | p :: ps, t, tmps, y, vs, h, hy => by
    cases hy with
    | nil => simpa [Go.Proofs.Ytnjfchigdpifmaa.putL] using h
    | cons h1 h2 h3 =>
      obtain ⟨rfl, rfl⟩ := Ct.split h3
      simp only [Go.Proofs.Ytnjfchigdpifmaa.putL, List.zip_cons_cons, List.foldl_cons]
      refine RC.putL ps ?_ h2
      rw [Array.toList_setIfInBounds]
      exact h.set_ h1
/-- a round's end -/
def RdQ (st' : List Sl) (E : Code → List Sl → Prop) : Exit → AS → Prop
  | .normal, s => ∃ t', Gh s ⟨t', st'⟩
  | .ret, s => ∃ t' b, Gh s ⟨t', b⟩ ∧ E .ret b ∧ nyA b = true
  | .exit id, s => ∃ t' b, Gh s ⟨t', b⟩ ∧ E (.exit id) b ∧ nyA b = true
  | _, _ => False
/-- what the ranging side holds while the other one is at work: its boxes, the loop's record, the block for calls put off -/
def JC (X : Cx) (t : List AV) (a : Act) (D l : Nat) (bst : List Sl) (rc : Obj) : Jt := fun w L R => ∃ X' φ κ f, X.le X' ∧ SatW X' φ κ f (fun x => L x + if x = l then 1 else 0) ⟨t, bst⟩ a w ∧ (∀ x, R x → X'.R x) ∧ X'.R D ∧ w.heap[D]? = some (.deferred (some [])) ∧ w.heap[l]? = some rc
theorem JC.cl {X : Cx} {t : List AV} {a : Act} {D l : Nat} {bst : List Sl} {rc : Obj} : Jcl (JC X t a D l bst rc) := by
  rintro w w' L L' R R' ⟨X', φ, κ, f, hX, h, hR, hD, hDh, hl⟩ hfr h1 h2 hup hdn
  have hl0 : L l = 0 ∧ l < w.heap.size := by
    have e1 := h.one l
    have e2 := h.own l
    simp only [if_true] at e1 e2
    exact ⟨by omega, (e2 (by omega)).1⟩
  have hl' : L' l = 0 := by
    have := h2 l
    omega
  have hsz := hfr.size
  have h3 : SatW X' φ κ f (fun x => L' x + if x = l then 1 else 0) ⟨t, bst⟩ a w' := by
    refine h.went ⟨hfr.os, hfr.tape, hfr.output, hfr.size, fun b hb hL => hfr.block b hb (by (try dsimp only at hL); omega)⟩ (fun x => ?_) (fun x hx => ?_)
    · (try dsimp only)
      by_cases hx : x = l
      · subst hx; simp [hl']
      · simp [hx]; exact h1 x
    · (try dsimp only at hx ⊢)
      by_cases hxl : x = l
      · subst hxl; exact ⟨by omega, .inl (by simp)⟩
      · simp [hxl] at hx ⊢; exact h2 x hx
  have hdn' : ∀ x, X'.R x ∨ R' x → X'.R x ∨ X'.S0 x ≠ 0 ∨ X'.w0.heap.size ≤ x := fun x hx => by
    rcases hx with hx | hx
    · exact .inl hx
    · rcases (hdn x hx).2.2 with h4 | h4 | h4
      · exact .inl (hR x h4)
      · exact .inr (h.own x (by (try dsimp only); omega)).2
      · have := h.fr.size; exact .inr (.inr (by omega))
  refine ⟨X'.gr (fun x => X'.R x ∨ R' x), φ, κ, f, hX.trans (Cx.le_gr (fun x hx => .inl hx) hdn'), h3.grow (fun x hx => .inl hx) (fun x hx => ?_) hdn', fun x hx => .inr hx, .inl hD, ?_, ?_⟩
  · rcases hx with hx | hx
    · exact h3.rd x hx
    · obtain ⟨e1, e2, e3⟩ := hdn x hx
      refine ⟨e1, ?_⟩
      (try dsimp only)
      have hz : sumF f bst.length x = 0 ∧ x ≠ l := by
        have e4 := h.one x
        have e5 := h.own x
        (try dsimp only at e4 e5)
        rcases e3 with e3 | e3 | e3
        · have := (h.rd x (hR x e3)).2
          (try dsimp only at this)
          refine ⟨by omega, fun e => ?_⟩
          rw [if_pos e] at this; omega
        · refine ⟨by omega, fun e => by rw [e] at e3; omega⟩
        · refine ⟨?_, by omega⟩
          by_cases hz : sumF f bst.length x = 0
          · exact hz
          · have := (e5 (by omega)).1; omega
      rw [if_neg hz.2]; omega
  · have e1 := h.rd D hD
    (try dsimp only at e1)
    rw [hfr.block D e1.1 (by omega)]; exact hDh
  · rw [hfr.block l hl0.2 hl0.1]; exact hl
theorem map_mark {l m : List Nat} (h : (l.map fun D => ({ target := .collected D, args := #[] } : Deferred)) = m.map fun D => { target := .collected D, args := #[] }) : l = m := by
  induction l generalizing m with
  | nil => cases m with
    | nil => rfl
    | cons _ _ => simp at h
  | cons a l ih => cases m with
    | nil => simp at h
    | cons b m =>
      simp only [List.map_cons, List.cons.injEq, Deferred.mk.injEq, Target.collected.injEq] at h
      rw [h.1.1, ih h.2]
/-- the statement -/
theorem cp_range {P : Program} {X : Cx} {s : AS} {Q : Exit → AS → Prop} {g : Operand} {ps : Array Nat} {assign body : Code} {gf : Nat} {cap al : List AV} {ks : List (Nat × Nat)} {bs : List Bx} {b1 bf : List Sl} {ys : List (List AV)}
    (hc : IC P gf al bs ys) (st : Nat → List Sl) (E : Code → List Sl → Prop) (hρ : X.ρ = none) (hmk : X.mks = true) (hg : aev s g = .fn gf cap) (hp : PasC false ks [] s.b cap al b1) (hout : Out b1 ks bs bf) (h0 : Wks ⟨s.t, bf⟩ ⟨s.t, st 0⟩)
    (hps : ∀ y ∈ ys, y.length = ps.size) (hny : ∀ i, nyA (st i) = true)
    (round : ∀ (i : Nat) (y : List AV), ys[i]? = some y → ∀ (Xr : Cx) (l : Nat), Xr.ρ = some l → CP P Xr assign (fun e s1 => e = .normal ∧ nyA s1.b = true ∧ ∀ Xb : Cx, Xb.ρ = some l → CP P Xb body (RdQ (st (i + 1)) E) s1) ⟨putL s.t ps.toList y, st i⟩)
    (done : Q .normal ⟨s.t, st ys.length⟩) (stop : ∀ b, (E .ret b → Q .ret ⟨s.t, b⟩) ∧ ∀ id, E (.exit id) b → Q (.exit id) ⟨s.t, b⟩) : CP P X (.rangeFunc g ps assign body) Q s := by
  rintro a w ⟨X0, φ, κ, f, hX0, h⟩
  rw [hρ]
  have hgv := h.evs hg
  obtain ⟨cvs, hcv, hcr⟩ : ∃ cvs : List Value, a.eval g = .func (.func gf) #[] cvs.toArray ∧ RC w φ κ X0.R cap cvs Ct.z := by
    generalize a.eval g = v at hgv
    cases hgv with | fn h => exact ⟨_, rfl, h⟩
  obtain ⟨S1, f1, h1, hfin⟩ := SatW.pasC (t := s.t) (hp.nobf bf) h hcr
  obtain ⟨X1, gs, Sb, f2, hX1, h2, h3, h4⟩ := SatW.out hout h1
  have hgl := h2.length
  have hkl : ks.length = bs.length := hout.length
  have hargs := hfin X1 f2 _ (fun i v => if v = 0 then gs[i]? else none) (fun _ _ => none) hX1 h3 (fun i k u g hi hg => by
    obtain ⟨g', h5, h6⟩ := h4 i k u hi
    rw [hg] at h6; injection h6 with e; subst e
    simp [h5])
  have hle : ∀ x, lendR false X1 f2 bf.length x → X1.R x := fun x hx => hx.elim id fun h => by cases h.1
  replace hargs := RC.hist (fun _ _ _ h => h) (fun _ _ _ h => h) hle hargs
  obtain ⟨f2', h3'⟩ := h3.wk h0
  -- the record and the block are laid
  obtain ⟨D, hD⟩ : ∃ D, D = w.heap.size := ⟨_, rfl⟩
  obtain ⟨l, hl⟩ : ∃ l, l = w.heap.size + 1 := ⟨_, rfl⟩
  refine wpIn_rangeFunc fun fn _ => ?_
  obtain ⟨rec, hrec⟩ : ∃ rec : LoopState → Option Code → Loop, rec = fun st p => { state := st, pending := p, fn, tmps := a.tmps, params := ps, assign, body, defers := D } := ⟨_, rfl⟩
  obtain ⟨w1, hw1⟩ : ∃ w1, w1 = (w.alloc (.deferred (some []))).alloc (.loop (rec .ready none)) := ⟨_, rfl⟩
  have hwD : w1.heap[D]? = some (.deferred (some [])) := by
    rw [hw1, hD, Below.heap_alloc _ _ _ (by simp)]
    exact World.alloc_heap_new _ _
  have hwl : w1.heap[l]? = some (.loop (rec .ready none)) := by
    rw [hw1, hl]
    have := World.alloc_heap_new (w.alloc (.deferred (some []))) (.loop (rec .ready none))
    simpa using this
  have hw1s : w1.heap.size = w.heap.size + 2 := by rw [hw1]; simp
  have hbel : Below w.heap.size w w1 := by rw [hw1]; exact ((Below.refl _ w).alloc (Nat.le_refl _) _).alloc (by simp) _
  have hsum : ∀ x, S1 x + Sb x = Sb x + (S1 x + Ct.z x) := fun x => by simp only [Ct.z]; omega
  have hnew : ∀ x, w.heap.size ≤ x → S1 x + Sb x = 0 := fun x hx => by
    have := h3.own x
    rw [hsum]
    dsimp only at this
    omega
  have h5 : SatW X1 φ κ f2' (fun x => (S1 x + Sb x) + if x = l then 1 else 0) ⟨s.t, st 0⟩ a w1 := by
    refine h3'.went ⟨hbel.os, hbel.tape, hbel.output, hbel.size, fun b hb _ => hbel.block b hb⟩ (fun x => ?_) fun x hx => ?_
    · have := h3'.one x
      have h6 := hnew x
      have h7 := hsum x
      dsimp only at this ⊢
      split <;> omega
    · have h6 := hnew x
      have h7 := hsum x
      have h8 := h3'.own x
      dsimp only at hx h8 ⊢
      by_cases hxl : x = l
      · rw [hxl]; exact ⟨by omega, .inr (by omega)⟩
      · simp only [if_neg hxl] at hx
        exact ⟨by have := (h8 (by omega)).1; omega, .inl (by omega)⟩
  have hsz0 := h5.fr.size
  have hsz1 := h3'.fr.size
  have hdn1 : ∀ x, X1.R x ∨ x = D → X1.R x ∨ X1.S0 x ≠ 0 ∨ X1.w0.heap.size ≤ x := fun x hx => hx.imp id fun hx => .inr (by omega)
  have h6 : SatW (X1.gr fun x => X1.R x ∨ x = D) φ κ f2' (fun x => (S1 x + Sb x) + if x = l then 1 else 0) ⟨s.t, st 0⟩ a w1 := h5.grow (fun x hx => .inl hx) (fun x hx => by
    rcases hx with hx | hx
    · exact h5.rd x hx
    · subst hx
      refine ⟨by omega, ?_⟩
      have h8 := h3'.own x
      have h9 := hnew x (by omega)
      have h10 := hsum x
      dsimp only at h8 ⊢
      rw [if_neg (by omega)]
      omega) hdn1
  have hX01 : X.le X1 := hX0.trans hX1
  have hJ0 : JC X s.t a D l (st 0) (.loop (rec .ready none)) w1 (fun x => S1 x + Sb x) X1.R :=
    ⟨_, φ, κ, f2', hX01.trans (Cx.le_gr (fun x hx => .inl hx) hdn1), h6, fun x hx => .inl hx, .inr rfl, hwD, hwl⟩
  -- a round
  have hY : ∀ (i : Nat) (y : List AV), ys[i]? = some y → Yok P l (JC X s.t a D l (st i) (.loop (rec .ready none))) y (JC X s.t a D l (st (i + 1)) (.loop (rec .ready none)))
      (fun w L R => ∃ c b, (c = .ret ∨ ∃ id, c = .exit id) ∧ E c b ∧ JC X s.t a D l b (.loop (rec .done (some c))) w L R) := by
    rintro i y hy w' L R vs ⟨X', φ', κ', f', hX', hS, hR', hDR, hDh, hlh⟩ hrc
    have hyl : vs.length = ps.size := by rw [hrc.length]; exact hps y (List.mem_of_getElem? hy)
    have hyrun := run_yield (P := P) (args := vs.toArray) hlh (by rw [hrec]; simp [hyl])
    rw [hrec] at hyrun
    refine ⟨fn, _, assign, body, hyrun, roundIn_of_wpIn trivial ?_⟩
    have hlL : (fun x => L x + if x = l then 1 else 0) l ≠ 0 := by simp
    have hll : l < w'.heap.size := (hS.own l (by simp)).1
    have hnl : ∀ x, X'.R x ∨ L x ≠ 0 → x ≠ l := fun x hx e => by
      subst e
      rcases hx with hx | hx
      · have := (hS.rd _ hx).2; simp at this
      · have := hS.one x; simp at this; omega
    have hsat1 := hS.aside (hny i) (some l) (t := putL s.t ps.toList y) (a' := { tmps := (ps.zip vs.toArray).foldl (fun t (p, v) => t.setIfInBounds p v) a.tmps, defers := [] }) (by
      have := RC.putL ps.toList hS.tm (RC.hist (φ' := φ') (κ' := κ') (fun _ _ _ h => by cases h) (fun _ _ _ h => by cases h) hR' hrc)
      have e : (ps.zip vs.toArray).foldl (fun t (p, v) => t.setIfInBounds p v) a.tmps = (ps.toList.zip vs).foldl (fun t (p, v) => t.setIfInBounds p v) a.tmps := by
        rw [← Array.foldl_toList, Array.toList_zip]
      dsimp only
      rw [e]; exact this) (.inl rfl)
    refine wpIn_mono (round i y hy _ l rfl _ _ hsat1) ?_
    rintro e a1 w1' ⟨s1, ⟨rfl, hn1, hb1⟩, hsat2⟩
    obtain ⟨R3, φ3, κ3, f3, hle3, hS3, hφ3, hκ3, hup3, hsz3, hk3⟩ := hS.back hsat2 hn1
    have hl3 : w1'.heap[l]? = some (.loop (rec .ready none)) := (hk3 l hll (.inl hlL)).trans hlh
    refine ⟨_, run_beginRound hl3 (by rw [hrec]), ?_⟩
    have hS4 := hS3.poke (.loop { rec .ready none with state := .busy }) hlL
    have hsat4 := hS4.aside hn1 (some l) hS4.tm (.inr rfl)
    refine wpIn_mono (hb1 _ rfl _ _ hsat4) ?_
    rintro e a5 w5 ⟨s5, hq, hsat5⟩
    have fin : ∀ (t' : List AV) (b : List Sl) (jump : Option Code), Gh s5 ⟨t', b⟩ → nyA b = true → ∃ w6, (Instr.endRound l jump).run P w5 = .ok (.bool jump.isNone) w6 ∧ JC X s.t a D l b (.loop (rec (if jump.isNone then .ready else .done) jump)) w6 L R ∧
        w'.heap.size ≤ w6.heap.size ∧ ∀ x, x < w'.heap.size → L x ≠ 0 ∨ R x → w6.heap[x]? = w'.heap[x]? := by
      intro t' b jump hgh hnb
      obtain ⟨R5, φ5, κ5, f5, hle5, hS5, hφ5, hκ5, hup5, hsz5, hk5⟩ := hS4.back (hgh _ _ _ hsat5) hnb
      have hsz4 : (w1'.putObj l (.loop { rec .ready none with state := .busy })).heap.size = w1'.heap.size := World.putObj_size
      have hl5 : w5.heap[l]? = some (.loop { rec .ready none with state := .busy }) := (hk5 l (by rw [hsz4]; omega) (.inl hlL)).trans (World.putObj_heap_same (by omega))
      have hrun := run_endRound (P := P) jump hl5
      have hrc5 : ({ rec .ready none with state := if jump.isNone then .ready else .done, pending := jump } : Loop) = rec (if jump.isNone then .ready else .done) jump := by rw [hrec]
      have hrun' : (Instr.endRound l jump).run P w5 = .ok (.bool jump.isNone) (w5.putObj l (.loop (rec (if jump.isNone then .ready else .done) jump))) := by rw [← hrc5]; exact hrun
      have hS6 := hS5.poke (.loop (rec (if jump.isNone then .ready else .done) jump)) hlL
      have hall : ∀ x, x < w'.heap.size → (L x ≠ 0 ∨ X'.R x) → (w5.putObj l (.loop (rec (if jump.isNone then .ready else .done) jump))).heap[x]? = w'.heap[x]? := fun x hx hh => by
        have hxl : x ≠ l := hnl x (by rcases hh with hh | hh; exact .inr hh; exact .inl hh)
        rw [World.putObj_heap_other hxl]
        rw [hk5 x (by rw [hsz4]; omega) (by rcases hh with hh | hh; exact .inl (by (try dsimp only); omega); exact .inr (hup3 x hh)), World.putObj_heap_other hxl]
        exact hk3 x hx (by rcases hh with hh | hh; exact .inl (by (try dsimp only); omega); exact .inr hh)
      have hRk : ∀ x, X'.R x → (w5.putObj l (.loop (rec (if jump.isNone then .ready else .done) jump))).heap[x]? = w'.heap[x]? := fun x hx => hall x (hS.rd x hx).1 (.inr hx)
      have hsz6 : w'.heap.size ≤ (w5.putObj l (.loop (rec (if jump.isNone then .ready else .done) jump))).heap.size := by simp; omega
      have hS7 := hS6.refr (t := s.t) (a' := a) (RC.hist (fun _ _ _ h => hφ5 _ _ _ (hφ3 _ _ _ h)) (fun _ _ _ h => hκ5 _ _ _ (hκ3 _ _ _ h)) (fun x hx => hup5 x (hup3 x hx)) (RC.keep hRk hS.tm fun x hx => absurd rfl hx)) ⟨by
        obtain ⟨d0, Ds, d1, d2, d3⟩ := hS.df.df
        exact ⟨Nat.le_trans d0 hsz6, Ds, d1, d2, fun D' hD' => ⟨(d3 D' hD').1, hup5 _ (hup3 _ (d3 D' hD').2.1), (hRk D' (d3 D' hD').2.1).trans (d3 D' hD').2.2⟩⟩, fun i u J hi => (nyA_at hnb hi).elim⟩
      refine ⟨_, hrun', ⟨_, φ5, κ5, f5, hX'.trans (hle3.trans hle5), hS7, fun x hx => hup5 x (hup3 x (hR' x hx)), hup5 _ (hup3 _ hDR), (hRk D hDR).trans hDh, World.putObj_heap_same (Array.getElem?_eq_some_iff.1 hl5).1⟩, hsz6, fun x hx hh => hall x hx (by rcases hh with hh | hh; exact .inl hh; exact .inr (hR' x hh))⟩
    cases e with
    | normal =>
      obtain ⟨t', hgh⟩ := hq
      obtain ⟨w6, q1, q2, q3, q4⟩ := fin t' _ none hgh (hny _)
      exact ⟨_, w6, q1, true, rfl, q2, q3, q4⟩
    | ret =>
      obtain ⟨t', b, hgh, hE, hnb⟩ := hq
      obtain ⟨w6, q1, q2, q3, q4⟩ := fin t' b (some .ret) hgh hnb
      exact ⟨_, w6, q1, false, rfl, ⟨.ret, b, .inl rfl, hE, q2⟩, q3, q4⟩
    | exit id =>
      obtain ⟨t', b, hgh, hE, hnb⟩ := hq
      obtain ⟨w6, q1, q2, q3, q4⟩ := fin t' b (some (.exit id)) hgh hnb
      exact ⟨_, w6, q1, false, rfl, ⟨.exit id, b, .inr ⟨id, rfl⟩, hE, q2⟩, q3, q4⟩
    | goto t => exact hq.elim
    | panic c => exact hq.elim
    | outgrown => exact hq.elim
  have hcl : Jcl (fun w L R => ∃ c b, (c = .ret ∨ ∃ id, c = .exit id) ∧ E c b ∧ JC X s.t a D l b (.loop (rec .done (some c))) w L R) := by
    rintro w w' L L' R R' ⟨c, b, h1, h2, h3⟩ k1 k2 k3 k4 k5
    exact ⟨c, b, h1, h2, JC.cl _ _ _ _ _ _ h3 k1 k2 k3 k4 k5⟩
  have hbR : ∀ x, X1.R x → w1.heap[x]? = w.heap[x]? := fun x hx => hbel.block x (h3.rd x hx).1
  have hS1 : ∀ x, S1 x + Sb x ≠ 0 → x < w.heap.size := fun x hx => by
    by_cases hxx : x < w.heap.size
    · exact hxx
    · exact absurd (hnew x (by omega)) hx
  have hcalls := hc.2 l (fun i => JC X s.t a D l (st i) (.loop (rec .ready none))) _ (fun _ => JC.cl) hcl hY w1 _ _ X1.R cvs gs S1 Sb
    (RC.keep hbR hargs fun x hx => hbel.block x (hS1 x (by omega))) (RXs.keep hbR h2 fun x hx => hbel.block x (hS1 x (by omega))) (fun i g hi => by simp [hi]) (fun i v hv => by
      by_cases hv0 : v = 0
      · rw [if_pos hv0]; exact List.getElem?_eq_none (by omega)
      · rw [if_neg hv0]) (fun _ _ => rfl) (fun x => by have := h3.one x; rw [hsum]; dsimp only at this ⊢; omega) (fun x hx => by have := hS1 x hx; omega)
    (fun x hx => by
      have h7 := h3.rd x hx
      rw [hsum]
      dsimp only at h7
      exact ⟨by omega, by omega⟩) hJ0
  refine ⟨l, [{ target := .collected D, args := #[] }], w1, { target := .fn (.func gf) cvs.toArray, args := #[.func (.yield l) #[] #[]] }, w1, gf, _, w1, ?_, ?_, fun _ _ => trivial, hc.1 _ _, fun hd => (by rw [Fw_depth] at hd; simp at hd), ?_⟩
  · have := run_enterLoop_outer (P := P) (w := w) fn a.tmps ps assign body
    rw [hl, hw1, hrec, hD]
    exact this
  · simp only [rangeCall, resolve, Deferred.ofValue, hcv, Sem.run_pure, Array.empty_append]
    simp [Act.eval]
  · have e0 : (#[Value.func (.yield l) #[] #[]] ++ cvs.toArray) = (Value.func (.yield l) #[] #[] :: cvs).toArray := by simp
    dsimp only
    rw [e0]
    refine callsFw.2 (hcalls.mono ?_)
    rintro e w3 ⟨v, L', R', rfl, hJ⟩
    have main : ∀ (b : List Sl) (pd : Option Code) (st' : LoopState), st' ≠ .busy → JC X s.t a D l b (.loop (rec st' pd)) w3 L' R' → ∃ w4, (Instr.endLoop l).run P w3 = .ok pd w4 ∧
        Sat X ⟨s.t, b⟩ { a with defers := [{ target := .collected D, args := #[] }] ++ a.defers } w4 := by
      rintro b pd st' hst ⟨X', φ', κ', f', hX', hS, hR', hDR, hDh, hlh⟩
      refine ⟨w3.putObj l (.loop (rec .exhausted pd)), by have := run_endLoop (P := P) hlh (by rw [hrec]; exact hst); rw [hrec] at this ⊢; exact this, X', φ', κ', f', hX', ?_⟩
      have hS2 : SatW X' φ' κ' f' Ct.z ⟨s.t, b⟩ a (w3.putObj l (.loop (rec .exhausted pd))) := hS.went (L' := Ct.z) ⟨rfl, rfl, rfl, by simp, fun x hx hL => World.putObj_heap_other (fun e => by subst e; simp at hL)⟩ (fun x => by simp [Ct.z]) (fun x hx => absurd rfl hx)
      refine hS2.refr hS2.tm ⟨?_, hS2.df.yd⟩
      obtain ⟨d0, Ds, d1, d2, d3⟩ := hS2.df.df
      obtain ⟨e0, Es, e1, e2, e3⟩ := h.df.df
      have hDE : Ds = Es := map_mark (d1.symm.trans e1)
      subst hDE
      have hdl : D ≠ l := by omega
      refine ⟨d0, D :: Ds, by simp [d1], ⟨List.nodup_cons.2 ⟨fun hm => ?_, d2.1⟩, fun hm => ?_⟩, fun D' hD' => ?_⟩
      · have := (Array.getElem?_eq_some_iff.1 (e3 D hm).2.2).1
        omega
      · rw [hX'.mks, hmk] at hm; cases hm
      · rcases List.mem_cons.1 hD' with rfl | hD'
        · refine ⟨?_, hDR, ?_⟩
          · rw [hX'.dB, ← hX0.dB]; omega
          · rw [World.putObj_heap_other hdl]; exact hDh
        · exact d3 D' hD'
    rcases hJ with hJ | ⟨c, b, hc, hE, hJ⟩
    · obtain ⟨w4, q1, q2⟩ := main _ _ _ (by simp) hJ
      exact ⟨none, w4, q1, ⟨_, done, q2⟩⟩
    · obtain ⟨w4, q1, q2⟩ := main _ _ _ (by simp) hJ
      refine ⟨some c, w4, q1, ?_⟩
      rcases hc with rfl | ⟨id, rfl⟩
      · exact wpIn_ret ⟨_, (stop b).1 hE, q2⟩
      · exact wpIn_exit ⟨_, (stop b).2 id hE, q2⟩
/-- the same, its side conditions where they stand -/
theorem CP.RG {P : Program} {X : Cx} {s : AS} {Q : Exit → AS → Prop} {g : Operand} {ps : Array Nat} {assign body : Code} {gf : Nat} {cap al : List AV} {ks : List (Nat × Nat)} {bs : List Bx} {b1 bf : List Sl} {ys : List (List AV)}
    (hc : IC P gf al bs ys) (st : Nat → List Sl) (E : Code → List Sl → Prop) (hps : ∀ y ∈ ys, y.length = ps.size)
    (round : ∀ (i : Nat) (y : List AV), ys[i]? = some y → ∀ (Xr : Cx) (l : Nat), Xr.ρ = some l → CP P Xr assign (fun e s1 => e = .normal ∧ nyA s1.b = true ∧ ∀ Xb : Cx, Xb.ρ = some l → CP P Xb body (RdQ (st (i + 1)) E) s1) ⟨putL s.t ps.toList y, st i⟩)
    (done : Q .normal ⟨s.t, st ys.length⟩) (stop : ∀ b, (E .ret b → Q .ret ⟨s.t, b⟩) ∧ ∀ id, E (.exit id) b → Q (.exit id) ⟨s.t, b⟩)
    (hρ : X.ρ = none := by assumption) (hmk : X.mks = true := by assumption) (hg : aev s g = .fn gf cap := by exact rfl) (hks : ksA al cap bs.length = ks := by exact rfl) (hp : PasC false ks [] s.b cap al b1 := by ((repeat' (first | exact PasC.nil | apply PasC.nil | apply PasC.cons | apply PasV.leaf rfl | apply PasV.nl | apply PasV.bp rfl | apply PasV.lend rfl rfl rfl | apply PasV.lend rfl rfl (ro_B _) | apply PasV.lend rfl rfl (ro_M _) | apply PasV.lend rfl rfl (ro_E _ _) | apply PasV.lend rfl rfl (ro_I _) | apply PasV.lend rfl rfl (by (simp only [rn, List.map_cons, List.map_nil]; first | done | rfl)) | apply PasV.mv rfl | apply PasV.ag | apply PasV.fn | exact PasV.fs | apply PasV.any)); all_goals fail)) (hout : Out b1 ks bs bf := by ((repeat' (first | exact Out.nil | apply Out.cons rfl | exact ClsC.nil | apply ClsC.nl | apply ClsC.leaf rfl | apply ClsC.hd rfl | apply ClsC.ob rfl | apply ClsC.mo rfl | apply ClsC.mp rfl | apply ClsC.hp rfl | apply ClsC.fn | apply ClsC.fz rfl (ro_B _) | apply ClsC.fz rfl (ro_M _) | apply ClsC.fz rfl (ro_E _ _) | apply ClsC.fz rfl rfl)); all_goals fail)) (h0 : Wks ⟨s.t, bf⟩ ⟨s.t, st 0⟩ := by ((refine ⟨?_, ?_⟩ <;> (try dsimp only) <;> (repeat' (first | exact Wk.nil | exact WkB.nil | apply Wk.same | apply Wk.de | apply Wk.nl | apply WkB.same | apply WkB.drop))); all_goals fail))
    (hny : ∀ i, nyA (st i) = true := by (intro i; exact rfl)) : CP P X (.rangeFunc g ps assign body) Q s := cp_range hc st E hρ hmk hg hp hout h0 hps hny round done stop
end Go.Proofs.Ytnjfchigdpifmaa

namespace Go.Proofs.Ytnjfchigdpifmaa
set_option linter.unusedVariables false
set_option linter.unusedSimpArgs false
set_option maxHeartbeats 8000000
open Go.RowKit
set_option maxRecDepth 100000
def chS (b : List UInt8) : List (List UInt8) := (List.range (b.length / 64)).map fun i => (b.drop (64 * i)).take 64
abbrev bxB (b : List UInt8) : Bx := .c 22 [bs none b]
theorem blocks_ic (b : List UInt8) (hb : b.length ≤ 100000000) : IC Try.prog 102 [.bp 0 0 0] [bxB b] ((chS b).map fun c => [bs none c]) := by
  have hlen : ((chS b).map fun c => [bs none c]).length = b.length / 64 := by simp [chS]
  have hat : ∀ i, i < b.length / 64 → ((chS b).map fun c => [bs none c])[i]? = some [bs none ((b.drop (64 * i)).take 64)] := fun i hi => by simp [chS, hi]
  refine IC.N Try.func102 Try.ntmps102 ?_
  intro X l J Jx hρ hyl hJ hJx hY
  rw [hlen]
  generalize ((chS b).map fun c => [bs none c]) = ys at hat hY
  simp only [nx, Nat.reduceAdd, Nat.reduceSub, BEq.rfl]
  repeat' (first
    | ((first
    | ((with_reducible apply AP.k_any); first
            | refine AP.S ?_
            | (refine AP.Y ?_; dsimp only) | refine AP.G (fun hg => ?_) (fun hg => ?_)
            | refine AP.A ?_ | refine AP.AB 0 ?_ | refine AP.AB 1 ?_ | refine AP.AL ?_
            | refine AP.LB ?_ | refine AP.TB ?_ | refine AP.IX ?_ | refine AP.SF ?_ | refine AP.SV ?_ | refine AP.CV ?_ | refine AP.CO ?_ | refine AP.FV ?_  | refine AP.PF ?_)
    ) <;> (try simp only [ nx, q4, rn, fq, Nat.mul_one, Bool.and_true, Bool.and_false, Nat.reduceBEq, Nat.reduceAdd, Nat.reduceSub, BEq.rfl]))
    | ((with_reducible apply AP.k_nil); first | (refine AP.nil (hQ' _ ?_); clear hQ' Q') | refine AP.nil ?_)
    | ((with_reducible apply CP.k_reg); refine cp_regG fun Q' hQ' => ?_)
      | (with_reducible apply CP.k_reg1; refine cp_region ?_)
      | ((with_reducible apply CP.k_cond); first | refine cp_condT rfl ?_ | refine cp_condF rfl ?_ | refine cp_cond rfl (fun hc => ?_) (fun hc => ?_))
      | refine CP.go ?_
      | (simp only [List.append_eq, List.cons_append, List.nil_append]))
  refine cp_loopS [3, 4, 5, 6, 7, 8, 9, 10, 11, 12, 13] (fun a : Nat => b.length / 64 - a) (fun a => a ≤ b.length / 64) (fun _ => []) (fun a => [(0, ⟨0, bxB (b.drop (64 * a))⟩), (1, ⟨0, .y (J a)⟩)]) 0 (Nat.zero_le _) (by exact Gh.W) ?_
  intro i hi
  simp only [setT, deT, setB, List.set_cons_succ, List.set_cons_zero]
  by_cases hlt : i < b.length / 64
  · have hy := hY i _ (hat i hlt)
    have hJi := hJ i
    have d1 : decide ((64 : Int) ≤ ((List.drop (64 * i) b).length : Int)) = true := by simp; omega
    have hdd : List.take ((List.drop (64 * i) b).length - Int.toNat 64) (List.drop (Int.toNat 64) (List.drop (64 * i) b)) = List.drop (64 * (i + 1)) b := by
      rw [List.take_of_length_le (by simp; omega), List.drop_drop]; congr 1
    repeat' (first
      | ((first
      | ((with_reducible apply AP.k_any); first
              | refine AP.S ?_
              | (refine AP.Y ?_; dsimp only) | refine AP.G (fun hg => ?_) (fun hg => ?_)
              | refine AP.A ?_ | refine AP.AB 0 ?_ | refine AP.AB 1 ?_ | refine AP.AL ?_
              | refine AP.LB ?_ | refine AP.TB ?_ | refine AP.IX ?_ | refine AP.SF ?_ | refine AP.SV ?_ | refine AP.CV ?_ | refine AP.CO ?_ | refine AP.FV ?_ | refine AP.YI (k := 1) hy ?_ ?_ | refine AP.PF ?_)
      ) <;> (try simp only [d1, nx, q4, rn, fq, Nat.mul_one, Bool.and_true, Bool.and_false, Nat.reduceBEq, Nat.reduceAdd, Nat.reduceSub, BEq.rfl]))
      | ((with_reducible apply AP.k_nil); first | (refine AP.nil (hQ' _ ?_); clear hQ' Q') | refine AP.nil ?_)
      | ((with_reducible apply CP.k_reg); refine cp_regG fun Q' hQ' => ?_)
        | (with_reducible apply CP.k_reg1; refine cp_region ?_)
        | ((with_reducible apply CP.k_cond); first | refine cp_condT rfl ?_ | refine cp_condF rfl ?_ | refine cp_cond rfl (fun hc => ?_) (fun hc => ?_))
        | refine CP.go ?_
        | (simp only [List.append_eq, List.cons_append, List.nil_append]))
    · simp only [hdd]
      exact ⟨i + 1, by omega, by omega, by exact Gh.W⟩
    · exact ⟨by first | exact .inr rfl | exact .inl rfl, _, _, rfl, by first | exact .inl rfl | exact .inr rfl⟩
  · obtain rfl : i = b.length / 64 := by omega
    have d1 : decide ((64 : Int) ≤ ((List.drop (64 * (b.length / 64)) b).length : Int)) = false := by simp; omega
    repeat' (first
      | ((first
      | ((with_reducible apply AP.k_any); first
              | refine AP.S ?_
              | (refine AP.Y ?_; dsimp only) | refine AP.G (fun hg => ?_) (fun hg => ?_)
              | refine AP.A ?_ | refine AP.AB 0 ?_ | refine AP.AB 1 ?_ | refine AP.AL ?_
              | refine AP.LB ?_ | refine AP.TB ?_ | refine AP.IX ?_ | refine AP.SF ?_ | refine AP.SV ?_ | refine AP.CV ?_ | refine AP.CO ?_ | refine AP.FV ?_  | refine AP.PF ?_)
      ) <;> (try simp only [d1, nx, q4, rn, fq, Nat.mul_one, Bool.and_true, Bool.and_false, Nat.reduceBEq, Nat.reduceAdd, Nat.reduceSub, BEq.rfl]))
      | ((with_reducible apply AP.k_nil); first | (refine AP.nil (hQ' _ ?_); clear hQ' Q') | refine AP.nil ?_)
      | ((with_reducible apply CP.k_reg); refine cp_regG fun Q' hQ' => ?_)
        | (with_reducible apply CP.k_reg1; refine cp_region ?_)
        | ((with_reducible apply CP.k_cond); first | refine cp_condT rfl ?_ | refine cp_condF rfl ?_ | refine cp_cond rfl (fun hc => ?_) (fun hc => ?_))
        | refine CP.go ?_
        | (simp only [List.append_eq, List.cons_append, List.nil_append]))
    exact ⟨by first | exact .inr rfl | exact .inl rfl, _, _, rfl, by first | exact .inl rfl | exact .inr rfl⟩
theorem blocks_ac (b : List UInt8) : AC Try.prog 100 [bs none b] [] (fun v bs' => v = .fn 102 [.bp 0 0 0] ∧ bs' = [bxB b]) := by
  refine AC.N Try.func100 Try.ntmps100 ?_
  intro X hρ hmks
  simp only [nx, Nat.reduceAdd, Nat.reduceSub, BEq.rfl]
  repeat' (first
    | ((first
    | ((with_reducible apply AP.k_any); first
            | refine AP.S ?_
            | refine AP.A ?_ | refine AP.AB 0 ?_ | refine AP.AB 1 ?_ | refine AP.AL ?_
            | refine AP.LB ?_ | refine AP.TB ?_ | refine AP.IX ?_ | refine AP.SF ?_ | refine AP.SV ?_ | refine AP.CV ?_ | refine AP.CO ?_ | refine AP.FV ?_  | refine AP.PF ?_)
    ) <;> (try simp only [ nx, q4, rn, fq, Nat.mul_one, Bool.and_true, Bool.and_false, Nat.reduceBEq, Nat.reduceAdd, Nat.reduceSub, BEq.rfl]))
    | ((with_reducible apply AP.k_nil); first | (refine AP.nil (hQ' _ ?_); clear hQ' Q') | refine AP.nil ?_)
    | ((with_reducible apply CP.k_reg); refine cp_regG fun Q' hQ' => ?_)
      | (with_reducible apply CP.k_reg1; refine cp_region ?_)
      | ((with_reducible apply CP.k_cond); first | refine cp_condT rfl ?_ | refine cp_condF rfl ?_ | refine cp_cond rfl (fun hc => ?_) (fun hc => ?_))
      | refine CP.go ?_
      | (simp only [List.append_eq, List.cons_append, List.nil_append]))
  (exact RetQ.A [(0, 1)] (by exact ⟨rfl, rfl⟩))
end Go.Proofs.Ytnjfchigdpifmaa
