/-
  Texts joined: W13, W14, M6, M7, M8, Cb, N1, Br, BrA, P1, P2, P3, P4, V4, D1, D2, D3, N2, BrE, BrG.
-/
import Derived.Test.YtpdegeknhapgmaaZ1
import Derived.Test.YtpdegeknhapgmaaZ2
import Derived.Test.YtpdegeknhapgmaaZ3
import Derived.Test.YtpdegeknhapgmaaRows
import Derived.OpenShut
import Derived.Carry
import Derived.ChangeArms
import Derived.ChangeSame
import Derived.ChangeMaps5
import Derived.JoinedCond
import Derived.Deep.Slices
namespace Go.Proofs.Ytpdegeknhapgmaa
set_option linter.unusedVariables false
set_option linter.unusedSimpArgs false
set_option maxHeartbeats 8000000
open Go.RowKit
set_option maxRecDepth 100000
theorem load64_ac (b : List UInt8) (hb : b.length ≤ 100000000) : AC Try.prog 86 [bs none b, I 0] [] (fun v bs' => v = .tu [.sc (.int .u64 ((loadS b 0 8).1 : Int)), B (loadS b 0 8).2] ∧ bs' = []) := by
  have h := load_ac b 0 8 (by omega) hb (by omega) (by omega)
  refine AC.N Try.func86 Try.ntmps86 ?_
  intro X
  simp only [nx, Nat.reduceAdd, Nat.reduceSub, BEq.rfl]
  repeat' (first
    | ((first
    | ((with_reducible apply AP.k_any); first
             | refine AP.S ?_
      )
    | ((with_reducible apply AP.k_any); refine AP.C (h) ?_)
    )
      <;> (try simp only [nx, Nat.reduceAdd, Nat.reduceSub, BEq.rfl]))
    | ((with_reducible apply AP.k_nil); first
        | (refine AP.nil (hQ' _ ?_); clear hQ' Q')
        | refine AP.nil ?_)
    | ((with_reducible apply CP.k_reg); refine cp_regG fun Q' hQ' => ?_)
      | (with_reducible apply CP.k_reg1; refine cp_region ?_)
      | ((with_reducible apply CP.k_cond); first | refine cp_condT rfl ?_ | refine cp_condF rfl ?_ | refine cp_cond rfl (fun hc => ?_) (fun hc => ?_))
      | refine CP.go ?_
      | (simp only [List.append_eq, List.cons_append, List.nil_append]))
  (refine RetQ.B [] ?_; (try dsimp only [resV, List.getD_cons_succ, List.getD_cons_zero]); (exact ⟨rfl, rfl⟩))
theorem load32_ac (b : List UInt8) (hb : b.length ≤ 100000000) : AC Try.prog 113 [bs none b, I 0] [] (fun v bs' => v = .tu [.sc (.int .u32 ((loadS b 0 4).1 : Int)), B (loadS b 0 4).2] ∧ bs' = []) := by
  have h := load_ac b 0 4 (by omega) hb (by omega) (by omega)
  have hw : IntKind.u32.wrap ((loadS b 0 4).1 : Int) = ((loadS b 0 4).1 : Int) := by
    have h1 : (loadS b 0 4).1 < 4294967296 := by
      unfold loadS
      split
      · simp
      · have := beN_lt ((b.drop (0 : Int).toNat).take 4)
        have h2 : 256 ^ ((b.drop (0 : Int).toNat).take 4).length ≤ 256 ^ 4 := Nat.pow_le_pow_right (by omega) (by simp; omega)
        simp at this h2 ⊢
        omega
    simp [IntKind.wrap, IntKind.bits, IntKind.signed]; omega
  refine AC.N Try.func113 Try.ntmps113 ?_
  intro X
  simp only [nx, Nat.reduceAdd, Nat.reduceSub, BEq.rfl]
  repeat' (first
    | ((first
    | ((with_reducible apply AP.k_any); first
             | refine AP.S ?_
      )
    | ((with_reducible apply AP.k_any); refine AP.C (h) ?_)
    )
      <;> (try simp only [nx, Nat.reduceAdd, Nat.reduceSub, BEq.rfl]))
    | ((with_reducible apply AP.k_nil); first
        | (refine AP.nil (hQ' _ ?_); clear hQ' Q')
        | refine AP.nil ?_)
    | ((with_reducible apply CP.k_reg); refine cp_regG fun Q' hQ' => ?_)
      | (with_reducible apply CP.k_reg1; refine cp_region ?_)
      | ((with_reducible apply CP.k_cond); first | refine cp_condT rfl ?_ | refine cp_condF rfl ?_ | refine cp_cond rfl (fun hc => ?_) (fun hc => ?_))
      | refine CP.go ?_
      | (simp only [List.append_eq, List.cons_append, List.nil_append]))
  simp only [hw]
  (refine RetQ.B [] ?_; (try dsimp only [resV, List.getD_cons_succ, List.getD_cons_zero]); (exact ⟨rfl, rfl⟩))
theorem loadS_all {b : List UInt8} {n : Nat} (h : b.length = n) : loadS b 0 n = (beN b, true) := by
  have h1 : ¬ ((0 : Int) < 0 ∨ (b.length : Int) - n < 0) := by omega
  simp only [loadS, if_neg h1]
  simp [← h]
def toI (n : Nat) : Int := IntKind.i64.wrap n
def byteG (b : List UInt8) : UInt8 × Bool := (b.headD 0, true)
def intG (b : List UInt8) : Int × Bool := (toI (beN b), true)
def flagG (b : List UInt8) : Bool × Bool := (b.headD 0 == 1, decide (b.headD 0 ≤ 1))
def lenG (b : List UInt8) : Int × Bool := (beN b, decide (beN b ≤ 65536))
def bytesG (b : List UInt8) : List UInt8 × Bool := (b, true)
def countG (m l : Int) (b : List UInt8) : Int × Bool := (toI (beN b), decide (0 ≤ toI (beN b)) && decide (toI (beN b) ≤ m) && decide (toI (beN b) ≤ l))
theorem len1 {b : List UInt8} (h : b.length = 1) : ∃ x, b = [x] := by
  match b, h with
  | [x], _ => exact ⟨x, rfl⟩
theorem rbyte1_ac (b : List UInt8) (h : b.length = 1) : AC Try.prog 82 [bs none b] [] (fun v bs' => v = .tu [U (byteG b).1, B (byteG b).2] ∧ bs' = []) := by
  obtain ⟨x, rfl⟩ := len1 h
  refine AC.N Try.func82 Try.ntmps82 ?_
  intro X
  simp only [nx, Nat.reduceAdd, Nat.reduceSub, BEq.rfl]
  repeat' (first
    | ((first
    | ((with_reducible apply AP.k_any); first
             | refine AP.S ?_
             | refine AP.E ?_
      )
    
    
    )
      <;> (try simp only [nx, Nat.reduceAdd, Nat.reduceSub, BEq.rfl]))
    | ((with_reducible apply AP.k_nil); first
        | (refine AP.nil (hQ' _ ?_); clear hQ' Q')
        | refine AP.nil ?_)
    | ((with_reducible apply CP.k_reg); refine cp_regG fun Q' hQ' => ?_)
      | (with_reducible apply CP.k_reg1; refine cp_region ?_)
      | ((with_reducible apply CP.k_cond); first | refine cp_condT rfl ?_ | refine cp_condF rfl ?_ | refine cp_cond rfl (fun hc => ?_) (fun hc => ?_))
      | refine CP.go ?_
      | (simp only [List.append_eq, List.cons_append, List.nil_append]))
  (refine RetQ.B [] ?_; (try dsimp only [resV, List.getD_cons_succ, List.getD_cons_zero]); (exact ⟨rfl, rfl⟩))
theorem rint1_ac (b : List UInt8) (h : b.length = 8) : AC Try.prog 85 [bs none b] [] (fun v bs' => v = .tu [I (intG b).1, B (intG b).2] ∧ bs' = []) := by
  have hl := load64_ac b (by omega)
  rw [loadS_all h] at hl
  refine AC.N Try.func85 Try.ntmps85 ?_
  intro X
  simp only [nx, Nat.reduceAdd, Nat.reduceSub, BEq.rfl]
  repeat' (first
    | ((first
    | ((with_reducible apply AP.k_any); first
             | refine AP.S ?_
      )
    | ((with_reducible apply AP.k_any); refine AP.C (hl) ?_)
    )
      <;> (try simp only [nx, Nat.reduceAdd, Nat.reduceSub, BEq.rfl]))
    | ((with_reducible apply AP.k_nil); first
        | (refine AP.nil (hQ' _ ?_); clear hQ' Q')
        | refine AP.nil ?_)
    | ((with_reducible apply CP.k_reg); refine cp_regG fun Q' hQ' => ?_)
      | (with_reducible apply CP.k_reg1; refine cp_region ?_)
      | ((with_reducible apply CP.k_cond); first | refine cp_condT rfl ?_ | refine cp_condF rfl ?_ | refine cp_cond rfl (fun hc => ?_) (fun hc => ?_))
      | refine CP.go ?_
      | (simp only [List.append_eq, List.cons_append, List.nil_append]))
  (refine RetQ.B [] ?_; (try dsimp only [resV, List.getD_cons_succ, List.getD_cons_zero]); (exact ⟨rfl, rfl⟩))
theorem rflag1_ac (b : List UInt8) (h : b.length = 1) : AC Try.prog 90 [bs none b] [] (fun v bs' => v = .tu [B (flagG b).1, B (flagG b).2] ∧ bs' = []) := by
  obtain ⟨x, rfl⟩ := len1 h
  refine AC.N Try.func90 Try.ntmps90 ?_
  intro X
  simp only [nx, Nat.reduceAdd, Nat.reduceSub, BEq.rfl]
  repeat' (first
    | ((first
    | ((with_reducible apply AP.k_any); first
             | refine AP.S ?_
             | refine AP.E ?_
             | (refine AP.V (fun c hnil => ?_); simp only [nz])
      )
    
    | ((with_reducible apply AQ.k_any); first
                    | refine AQ.S ?_
                    | refine AQ.E ?_
      )
    )
      <;> (try simp only [nx, Nat.reduceAdd, Nat.reduceSub, BEq.rfl]))
    | ((with_reducible apply AP.k_nil); first
        | (refine AP.nil (hQ' _ ?_); clear hQ' Q')
        | refine AP.nil ?_)
    | ((with_reducible apply AQ.k_nil); first | (refine AQ.nil (hQ' _ ?_); clear hQ' Q') | refine AQ.nil ?_)
    | ((with_reducible apply CP.k_drw); refine cp_drw (by kernel_rfl) (by kernel_rfl) fun Q' hQ' => ?_)
    | ((with_reducible apply CP.k_drw1); refine cp_draw (by kernel_rfl) (by kernel_rfl) ?_)
    | ((with_reducible apply CP.k_reg); refine cp_regG fun Q' hQ' => ?_)
      | (with_reducible apply CP.k_reg1; refine cp_region ?_)
      | ((with_reducible apply CP.k_cond); first | refine cp_condT rfl ?_ | refine cp_condF rfl ?_ | refine cp_cond rfl (fun hc => ?_) (fun hc => ?_))
      | refine CP.go ?_
      | (simp only [List.append_eq, List.cons_append, List.nil_append]))
  (refine RetQ.B [] ?_; (try dsimp only [resV, List.getD_cons_succ, List.getD_cons_zero]); ((refine ⟨?_, rfl⟩; simp [flagG, UInt8.le_iff_toNat_le, beq_iff_eq]; try (rw [Bool.eq_iff_iff]; simp [← UInt8.toNat_inj]; try omega))))
theorem rlen1_ac (b : List UInt8) (h : b.length = 4) : AC Try.prog 112 [bs none b] [] (fun v bs' => v = .tu [I (lenG b).1, B (lenG b).2] ∧ bs' = []) := by
  have hl := load32_ac b (by omega)
  rw [loadS_all h] at hl
  have hb := beN_lt b
  rw [h] at hb
  have hw : IntKind.i64.wrap (beN b : Int) = (beN b : Int) := wrap_i64 (by omega) (by omega)
  refine AC.N Try.func112 Try.ntmps112 ?_
  intro X
  simp only [nx, Nat.reduceAdd, Nat.reduceSub, BEq.rfl]
  repeat' (first
    | ((first
    | ((with_reducible apply AP.k_any); first
             | refine AP.S ?_
      )
    | ((with_reducible apply AP.k_any); refine AP.C (hl) ?_)
    )
      <;> (try simp only [nx, Nat.reduceAdd, Nat.reduceSub, BEq.rfl]))
    | ((with_reducible apply AP.k_nil); first
        | (refine AP.nil (hQ' _ ?_); clear hQ' Q')
        | refine AP.nil ?_)
    | ((with_reducible apply CP.k_reg); refine cp_regG fun Q' hQ' => ?_)
      | (with_reducible apply CP.k_reg1; refine cp_region ?_)
      | ((with_reducible apply CP.k_cond); first | refine cp_condT rfl ?_ | refine cp_condF rfl ?_ | refine cp_cond rfl (fun hc => ?_) (fun hc => ?_))
      | refine CP.go ?_
      | (simp only [List.append_eq, List.cons_append, List.nil_append]))
  simp only [hw]
  (refine RetQ.B [] ?_; (try dsimp only [resV, List.getD_cons_succ, List.getD_cons_zero]); ((refine ⟨?_, rfl⟩; simp [lenG]; try omega)))
theorem rbytes1_ac (b : List UInt8) (h : b.length ≤ 100000000) : AC Try.prog 115 [bs none b] [] (fun v bs' => v = .tu [bs none (bytesG b).1, B (bytesG b).2] ∧ bs' = []) := by
  have hcat := (wcat_ac [b] (by simp) (by simp; omega)).ro (r2 := bs none b) (by simp [AV.ro, ro_B])
  refine AC.N Try.func115 Try.ntmps115 ?_
  intro X
  simp only [nx, Nat.reduceAdd, Nat.reduceSub, BEq.rfl]
  repeat' (first
    | ((first
    | ((with_reducible apply AP.k_any); first
             | refine AP.Z ?_
      )
    | ((with_reducible apply AP.k_any); refine AP.C (hcat) ?_)
    | ((with_reducible apply AP.k_any); refine AP.gh (gh_fz (b := 0) (u := 1) rfl rfl (by (repeat' (first | exact FzC.nil | apply FzC.cons | exact FzV.hd | apply FzV.ag | exact FzV.same))) (by (repeat' (first | exact FzB.nil | apply FzB.c | apply FzB.same | exact FzC.nil | apply FzC.cons | exact FzV.hd | apply FzV.ag | exact FzV.same)))) ?_; first | simp only [roE, roC, AV.ro, ro_B, ro_M, ro_E] | simp only [roE, roC, AV.ro, ro_B])
    )
      <;> (try simp only [nx, Nat.reduceAdd, Nat.reduceSub, BEq.rfl]))
    | ((with_reducible apply AP.k_nil); first
        | (refine AP.nil (hQ' _ ?_); clear hQ' Q')
        | refine AP.nil ?_)
    | ((with_reducible apply CP.k_reg); refine cp_regG fun Q' hQ' => ?_)
      | (with_reducible apply CP.k_reg1; refine cp_region ?_)
      | ((with_reducible apply CP.k_cond); first | refine cp_condT rfl ?_ | refine cp_condF rfl ?_ | refine cp_cond rfl (fun hc => ?_) (fun hc => ?_))
      | refine CP.go ?_
      | (simp only [List.append_eq, List.cons_append, List.nil_append]))
  (refine RetQ.B [] ?_; (try dsimp only [resV, List.getD_cons_succ, List.getD_cons_zero]); (exact ⟨rfl, rfl⟩))
theorem rcount1_ac (m l : Int) (b : List UInt8) (h : b.length = 8) : AC Try.prog 88 [bs none b, .bp 0 0 0, .bp 1 0 0] [iB m, iB l] (fun v bs' => v = .tu [I (countG m l b).1, B (countG m l b).2] ∧ bs' = [iB m, iB l]) := by
  have hl := load64_ac b (by omega)
  rw [loadS_all h] at hl
  refine AC.N Try.func88 Try.ntmps88 ?_
  intro X
  simp only [nx, Nat.reduceAdd, Nat.reduceSub, BEq.rfl]
  repeat' (first
    | ((first
    | ((with_reducible apply AP.k_any); first
             | refine AP.S ?_
             | (refine AP.Y ?_; dsimp only) | refine AP.G (fun hg => ?_) (fun hg => ?_)
      )
    | ((with_reducible apply AP.k_any); refine AP.C (hl) ?_)
    | ((with_reducible apply AQ.k_any); first
                    | refine AQ.S ?_
                    | (refine AQ.Y ?_; dsimp only) | refine AQ.G (fun hg => ?_) (fun hg => ?_)
      )
    )
      <;> (try simp only [nx, Nat.reduceAdd, Nat.reduceSub, BEq.rfl]))
    | ((with_reducible apply AP.k_nil); first
        | (refine AP.nil (hQ' _ ?_); clear hQ' Q')
        | refine AP.nil ?_)
    | ((with_reducible apply AQ.k_nil); first | (refine AQ.nil (hQ' _ ?_); clear hQ' Q') | refine AQ.nil ?_)
    | ((with_reducible apply CP.k_drw); refine cp_drw (by kernel_rfl) (by kernel_rfl) fun Q' hQ' => ?_)
    | ((with_reducible apply CP.k_drw1); refine cp_draw (by kernel_rfl) (by kernel_rfl) ?_)
    | ((with_reducible apply CP.k_reg); refine cp_regG fun Q' hQ' => ?_)
      | (with_reducible apply CP.k_reg1; refine cp_region ?_)
      | ((with_reducible apply CP.k_cond); first | refine cp_condT rfl ?_ | refine cp_condF rfl ?_ | refine cp_cond rfl (fun hc => ?_) (fun hc => ?_))
      | refine CP.go ?_
      | (simp only [List.append_eq, List.cons_append, List.nil_append]))
  all_goals (refine RetQ.B [(0, 0), (1, 0)] ?_; (try dsimp only [resV, List.getD_cons_succ, List.getD_cons_zero]); ((refine ⟨?_, rfl⟩; simp at *; simp [countG, toI, *]; try (first | rfl | (intro h1; exfalso; have h2 := of_decide_eq_true h1; omega)))))
theorem takeS_len {α : Type} {z : α} {f : List UInt8 → α × Bool} {n : Int} {st : Int × List UInt8} {k : Nat} (h : st.2.length ≤ k) : (takeS z f n st).2.2.length ≤ k := by
  unfold takeS
  split
  · exact h
  · split
    · simp
    · split
      · simp; omega
      · simp
def byteR (st : Int × List UInt8) : UInt8 × (Int × List UInt8) := takeS 0 byteG 1 st
def intR (st : Int × List UInt8) : Int × (Int × List UInt8) := takeS 0 intG 8 st
def flagR (st : Int × List UInt8) : Bool × (Int × List UInt8) := takeS false flagG 1 st
def lenR (st : Int × List UInt8) : Int × (Int × List UInt8) := takeS 0 lenG 4 st
def bytesR (st : Int × List UInt8) : List UInt8 × (Int × List UInt8) := takeS [] bytesG (lenR st).1 (lenR st).2
def leftR (st : Int × List UInt8) : Int := if st.1 = 0 then st.2.length else 0
def countR (m : Int) (st : Int × List UInt8) : Int × (Int × List UInt8) := takeS 0 (countG m (leftR st - 8)) 8 st
def endR (st : Int × List UInt8) : Int := if st.1 = 0 then (if st.2 = [] then 0 else 40) else st.1
theorem rbyte_ac (st : Int × List UInt8) (hst : st.2.length ≤ 100000000) : AC Try.prog 65 [.bp 0 0 0] [rB st] (fun v bs' => v = U (byteR st).1 ∧ bs' = [rB (byteR st).2]) := by
  have h := take1_ac 82 byteG 1 st hst (fun b hb _ => rbyte1_ac b hb)
  refine AC.N Try.func65 Try.ntmps65 ?_
  intro X
  simp only [nx, Nat.reduceAdd, Nat.reduceSub, BEq.rfl]
  repeat' (first
    | ((first
    | ((with_reducible apply AP.k_any); first
             | refine AP.S ?_
      )
    | ((with_reducible apply AP.k_any); refine AP.CB [(0, 0)] 0 (h) ?_)
    )
      <;> (try simp only [nx, Nat.reduceAdd, Nat.reduceSub, BEq.rfl]))
    | ((with_reducible apply AP.k_nil); first
        | (refine AP.nil (hQ' _ ?_); clear hQ' Q')
        | refine AP.nil ?_)
    | ((with_reducible apply CP.k_reg); refine cp_regG fun Q' hQ' => ?_)
      | (with_reducible apply CP.k_reg1; refine cp_region ?_)
      | ((with_reducible apply CP.k_cond); first | refine cp_condT rfl ?_ | refine cp_condF rfl ?_ | refine cp_cond rfl (fun hc => ?_) (fun hc => ?_))
      | refine CP.go ?_
      | (simp only [List.append_eq, List.cons_append, List.nil_append]))
  (exact RetQ.A [(0, 0)] (by exact ⟨rfl, rfl⟩))
theorem rint_ac (st : Int × List UInt8) (hst : st.2.length ≤ 100000000) : AC Try.prog 68 [.bp 0 0 0] [rB st] (fun v bs' => v = I (intR st).1 ∧ bs' = [rB (intR st).2]) := by
  have h := take3_ac 85 intG 8 st hst (fun b hb _ => rint1_ac b hb)
  refine AC.N Try.func68 Try.ntmps68 ?_
  intro X
  simp only [nx, Nat.reduceAdd, Nat.reduceSub, BEq.rfl]
  repeat' (first
    | ((first
    | ((with_reducible apply AP.k_any); first
             | refine AP.S ?_
      )
    | ((with_reducible apply AP.k_any); refine AP.CB [(0, 0)] 0 (h) ?_)
    )
      <;> (try simp only [nx, Nat.reduceAdd, Nat.reduceSub, BEq.rfl]))
    | ((with_reducible apply AP.k_nil); first
        | (refine AP.nil (hQ' _ ?_); clear hQ' Q')
        | refine AP.nil ?_)
    | ((with_reducible apply CP.k_reg); refine cp_regG fun Q' hQ' => ?_)
      | (with_reducible apply CP.k_reg1; refine cp_region ?_)
      | ((with_reducible apply CP.k_cond); first | refine cp_condT rfl ?_ | refine cp_condF rfl ?_ | refine cp_cond rfl (fun hc => ?_) (fun hc => ?_))
      | refine CP.go ?_
      | (simp only [List.append_eq, List.cons_append, List.nil_append]))
  (exact RetQ.A [(0, 0)] (by exact ⟨rfl, rfl⟩))
theorem rflag_ac (st : Int × List UInt8) (hst : st.2.length ≤ 100000000) : AC Try.prog 70 [.bp 0 0 0] [rB st] (fun v bs' => v = B (flagR st).1 ∧ bs' = [rB (flagR st).2]) := by
  have h := take2_ac 90 flagG 1 st hst (fun b hb _ => rflag1_ac b hb)
  refine AC.N Try.func70 Try.ntmps70 ?_
  intro X
  simp only [nx, Nat.reduceAdd, Nat.reduceSub, BEq.rfl]
  repeat' (first
    | ((first
    | ((with_reducible apply AP.k_any); first
             | refine AP.S ?_
      )
    | ((with_reducible apply AP.k_any); refine AP.CB [(0, 0)] 0 (h) ?_)
    )
      <;> (try simp only [nx, Nat.reduceAdd, Nat.reduceSub, BEq.rfl]))
    | ((with_reducible apply AP.k_nil); first
        | (refine AP.nil (hQ' _ ?_); clear hQ' Q')
        | refine AP.nil ?_)
    | ((with_reducible apply CP.k_reg); refine cp_regG fun Q' hQ' => ?_)
      | (with_reducible apply CP.k_reg1; refine cp_region ?_)
      | ((with_reducible apply CP.k_cond); first | refine cp_condT rfl ?_ | refine cp_condF rfl ?_ | refine cp_cond rfl (fun hc => ?_) (fun hc => ?_))
      | refine CP.go ?_
      | (simp only [List.append_eq, List.cons_append, List.nil_append]))
  (exact RetQ.A [(0, 0)] (by exact ⟨rfl, rfl⟩))
theorem rbytes_ac (st : Int × List UInt8) (hst : st.2.length ≤ 100000000) : AC Try.prog 83 [.bp 0 0 0] [rB st] (fun v bs' => v = bs none (bytesR st).1 ∧ bs' = [rB (bytesR st).2]) := by
  have h := take3_ac 112 lenG 4 st hst (fun b hb _ => rlen1_ac b hb)
  have h2 := take4_ac 115 bytesG (lenR st).1 (lenR st).2 (takeS_len hst) (fun b _ hb => rbytes1_ac b (Nat.le_trans hb (takeS_len hst)))
  refine AC.N Try.func83 Try.ntmps83 ?_
  intro X
  simp only [nx, Nat.reduceAdd, Nat.reduceSub, BEq.rfl]
  repeat' (first
    | ((first
    | ((with_reducible apply AP.k_any); first
             | refine AP.S ?_
      )
    | ((with_reducible apply AP.k_any); refine AP.CB [(0, 0)] 0 (h) ?_)
    | ((with_reducible apply AP.k_any); refine AP.CB [(0, 0)] 0 (h2) ?_)
    )
      <;> (try simp only [nx, Nat.reduceAdd, Nat.reduceSub, BEq.rfl]))
    | ((with_reducible apply AP.k_nil); first
        | (refine AP.nil (hQ' _ ?_); clear hQ' Q')
        | refine AP.nil ?_)
    | ((with_reducible apply CP.k_reg); refine cp_regG fun Q' hQ' => ?_)
      | (with_reducible apply CP.k_reg1; refine cp_region ?_)
      | ((with_reducible apply CP.k_cond); first | refine cp_condT rfl ?_ | refine cp_condF rfl ?_ | refine cp_cond rfl (fun hc => ?_) (fun hc => ?_))
      | refine CP.go ?_
      | (simp only [List.append_eq, List.cons_append, List.nil_append]))
  (exact RetQ.A [(0, 0)] (by exact ⟨rfl, rfl⟩))
theorem rleft_ac (st : Int × List UInt8) : AC Try.prog 87 [.bp 0 0 0] [rB st] (fun v bs' => v = I (leftR st) ∧ bs' = [rB st]) := by
  refine AC.N Try.func87 Try.ntmps87 ?_
  intro X
  simp only [nx, Nat.reduceAdd, Nat.reduceSub, BEq.rfl]
  repeat' (first
    | ((first
    | ((with_reducible apply AP.k_any); first
             | refine AP.S ?_
      )
    | ((with_reducible apply AP.k_any); refine AP.CB [(0, 0)] 0 (fine_ac st) ?_)
    )
      <;> (try simp only [nx, Nat.reduceAdd, Nat.reduceSub, BEq.rfl]))
    | ((with_reducible apply AP.k_nil); first
        | (refine AP.nil (hQ' _ ?_); clear hQ' Q')
        | refine AP.nil ?_)
    | ((with_reducible apply CP.k_reg); refine cp_regG fun Q' hQ' => ?_)
      | (with_reducible apply CP.k_reg1; refine cp_region ?_)
      | ((with_reducible apply CP.k_cond); first | refine cp_condT rfl ?_ | refine cp_condF rfl ?_ | refine cp_cond rfl (fun hc => ?_) (fun hc => ?_))
      | refine CP.go ?_
      | (simp only [List.append_eq, List.cons_append, List.nil_append]))
  · (refine RetQ.B [(0, 0)] ?_; (try dsimp only [resV, List.getD_cons_succ, List.getD_cons_zero]); ((refine ⟨?_, rfl⟩; simp at *; simp [leftR, *])))
  · (refine RetQ.B [(0, 0)] ?_; (try dsimp only [resV, List.getD_cons_succ, List.getD_cons_zero]); ((refine ⟨?_, rfl⟩; simp at *; simp [leftR, *])))
theorem rcount_ac (m : Int) (st : Int × List UInt8) (hst : st.2.length ≤ 100000000) : AC Try.prog 69 [.bp 0 0 0, I m] [rB st] (fun v bs' => v = I (countR m st).1 ∧ bs' = [rB (countR m st).2]) := by
  have h := take5_ac m (leftR st - 8) 88 (countG m (leftR st - 8)) 8 st hst (fun b hb _ => rcount1_ac m _ b hb)
  have hw : IntKind.i64.wrap (leftR st - 8) = leftR st - 8 := by
    have : 0 ≤ leftR st ∧ leftR st ≤ 100000000 := by unfold leftR; split <;> omega
    exact wrap_i64 (by omega) (by omega)
  refine AC.N Try.func69 Try.ntmps69 ?_
  intro X
  simp only [nx, Nat.reduceAdd, Nat.reduceSub, BEq.rfl]
  repeat' (first
    | ((first
    | ((with_reducible apply AP.k_any); first
             | refine AP.S ?_
      )
    | ((with_reducible apply AP.k_any); refine AP.CB [(0, 0)] 0 (rleft_ac st) ?_)
    | ((with_reducible apply AP.k_any); simp only [hw]; refine ap_callB 0 [(0, 0), (1, 1), (2, 1)] rfl rfl (fn := 84) rfl (h) (by (repeat' (first | exact PasC.nil | apply PasC.nil | apply PasC.cons | apply PasV.leaf rfl | apply PasV.nl | apply PasV.bp rfl | apply PasV.lend rfl rfl rfl | apply PasV.lend rfl rfl (ro_B _) | apply PasV.lend rfl rfl (ro_M _) | apply PasV.lend rfl rfl (ro_E _ _) | apply PasV.lend rfl rfl (ro_I _) | apply PasV.mv rfl | apply PasV.ag | apply PasV.fn | exact PasV.fs | apply PasV.any))) (by (repeat' (first | exact Out.nil | apply Out.cons rfl | exact ClsC.nil | apply ClsC.nl | apply ClsC.leaf rfl | apply ClsC.hd rfl | apply ClsC.fn | apply ClsC.fz rfl (ro_B _) | apply ClsC.fz rfl (ro_M _) | apply ClsC.fz rfl (ro_E _ _) | apply ClsC.fz rfl rfl))) rfl (by (repeat' (first | exact Bk.nil | apply Bk.cons rfl rfl rfl))) (by (repeat' (first | exact RnV.leaf rfl | exact RnC.nil | apply RnC.cons | apply RnV.ag | apply RnV.tu | exact RnV.bp rfl))) rfl ?_)
    )
      <;> (try simp only [nx, Nat.reduceAdd, Nat.reduceSub, BEq.rfl]))
    | ((with_reducible apply AP.k_nil); first
        | (refine AP.nil (hQ' _ ?_); clear hQ' Q')
        | refine AP.nil ?_)
    | ((with_reducible apply CP.k_reg); refine cp_regG fun Q' hQ' => ?_)
      | (with_reducible apply CP.k_reg1; refine cp_region ?_)
      | ((with_reducible apply CP.k_cond); first | refine cp_condT rfl ?_ | refine cp_condF rfl ?_ | refine cp_cond rfl (fun hc => ?_) (fun hc => ?_))
      | refine CP.go ?_
      | (simp only [List.append_eq, List.cons_append, List.nil_append]))
  (exact RetQ.A [(0, 0)] (by exact ⟨rfl, rfl⟩))
theorem rerr_ac (st : Int × List UInt8) : AC Try.prog 71 [.bp 0 0 0] [rB st] (fun v bs' => v = I st.1 ∧ bs' = [rB st]) := by
  refine AC.N Try.func71 Try.ntmps71 ?_
  intro X
  simp only [nx, Nat.reduceAdd, Nat.reduceSub, BEq.rfl]
  repeat' (first
    | ((first
    | ((with_reducible apply AP.k_any); first
             | refine AP.S ?_
             | (refine AP.Y ?_; dsimp only) | refine AP.G (fun hg => ?_) (fun hg => ?_)
             | (refine AP.V (fun c hnil => ?_); simp only [nz])
      )
    
    )
      <;> (try simp only [nx, Nat.reduceAdd, Nat.reduceSub, BEq.rfl]))
    | ((with_reducible apply AP.k_nil); first
        | (refine AP.nil (hQ' _ ?_); clear hQ' Q')
        | refine AP.nil ?_)
    | ((with_reducible apply CP.k_reg); refine cp_regG fun Q' hQ' => ?_)
      | (with_reducible apply CP.k_reg1; refine cp_region ?_)
      | ((with_reducible apply CP.k_cond); first | refine cp_condT rfl ?_ | refine cp_condF rfl ?_ | refine cp_cond rfl (fun hc => ?_) (fun hc => ?_))
      | refine CP.go ?_
      | (simp only [List.append_eq, List.cons_append, List.nil_append]))
  (exact RetQ.A [(0, 0)] (by exact ⟨rfl, rfl⟩))
theorem rend_ac (st : Int × List UInt8) : AC Try.prog 35 [.bp 0 0 0] [rB st] (fun v bs' => v = I (endR st) ∧ bs' = [rB st]) := by
  refine AC.N Try.func35 Try.ntmps35 ?_
  intro X
  simp only [nx, Nat.reduceAdd, Nat.reduceSub, BEq.rfl]
  repeat' (first
    | ((first
    | ((with_reducible apply AP.k_any); first
             | refine AP.S ?_
             | (refine AP.V (fun c hnil => ?_); simp only [nz])
      )
    | ((with_reducible apply AP.k_any); refine AP.CB [(0, 0)] 0 (rerr_ac st) ?_)
    )
      <;> (try simp only [nx, Nat.reduceAdd, Nat.reduceSub, BEq.rfl]))
    | ((with_reducible apply AP.k_nil); first
        | (refine AP.nil (hQ' _ ?_); clear hQ' Q')
        | refine AP.nil ?_)
    | ((with_reducible apply CP.k_reg); refine cp_regG fun Q' hQ' => ?_)
      | (with_reducible apply CP.k_reg1; refine cp_region ?_)
      | ((with_reducible apply CP.k_cond); first | refine cp_condT rfl ?_ | refine cp_condF rfl ?_ | refine cp_cond rfl (fun hc => ?_) (fun hc => ?_))
      | refine CP.go ?_
      | (simp only [List.append_eq, List.cons_append, List.nil_append]))
  all_goals (refine RetQ.B [(0, 0)] ?_; (try dsimp only [resV, List.getD_cons_succ, List.getD_cons_zero]); ((refine ⟨?_, rfl⟩; simp at *; simp [endR, *]; try (intro h; simp [h] at *))))
end Go.Proofs.Ytpdegeknhapgmaa

namespace Go.Proofs.Ytpdegeknhapgmaa
set_option linter.unusedVariables false
set_option linter.unusedSimpArgs false
set_option maxHeartbeats 8000000
open Go.RowKit
set_option maxRecDepth 100000
theorem intR_len {st : Int × List UInt8} {k : Nat} (h : st.2.length ≤ k) : (intR st).2.2.length ≤ k := takeS_len h
theorem flagR_len {st : Int × List UInt8} {k : Nat} (h : st.2.length ≤ k) : (flagR st).2.2.length ≤ k := takeS_len h
theorem byteR_len {st : Int × List UInt8} {k : Nat} (h : st.2.length ≤ k) : (byteR st).2.2.length ≤ k := takeS_len h
theorem bytesR_len {st : Int × List UInt8} {k : Nat} (h : st.2.length ≤ k) : (bytesR st).2.2.length ≤ k := takeS_len (takeS_len h)
theorem countR_len {m : Int} {st : Int × List UInt8} {k : Nat} (h : st.2.length ≤ k) : (countR m st).2.2.length ≤ k := takeS_len h
def restR (pos : Int) (st : Int × List UInt8) : Entry × (Int × List UInt8) :=
  (⟨pos, (intR st).1, (intR (intR st).2).1, (intR (intR (intR st).2).2).1, (bytesR (intR (intR (intR st).2).2).2).1⟩, (bytesR (intR (intR (intR st).2).2).2).2)
def entryR (st : Int × List UInt8) : Entry × (Int × List UInt8) := restR (intR st).1 (intR st).2
def memR (st : Int × List UInt8) : Member × (Int × List UInt8) := (⟨(intR st).1, (intR (intR st).2).1, (flagR (intR (intR st).2).2).1⟩, (flagR (intR (intR st).2).2).2)
def memsR : Nat → (Int × List UInt8) → List Member × (Int × List UInt8)
  | 0, st => ([], st)
  | n + 1, st => ((memR st).1 :: (memsR n (memR st).2).1, (memsR n (memR st).2).2)
def configR (st : Int × List UInt8) : Config × (Int × List UInt8) :=
  (⟨(intR st).1, (memsR (countR 5 (intR st).2).1.toNat (countR 5 (intR st).2).2).1⟩, (memsR (countR 5 (intR st).2).1.toNat (countR 5 (intR st).2).2).2)
theorem restR_len {p : Int} {st : Int × List UInt8} {k : Nat} (h : st.2.length ≤ k) : (restR p st).2.2.length ≤ k := bytesR_len (intR_len (intR_len (intR_len h)))
theorem memR_len {st : Int × List UInt8} {k : Nat} (h : st.2.length ≤ k) : (memR st).2.2.length ≤ k := flagR_len (intR_len (intR_len h))
theorem memsR_len {k : Nat} : ∀ {n : Nat} {st : Int × List UInt8}, st.2.length ≤ k → (memsR n st).2.2.length ≤ k
  | 0, _, h => h
  | n + 1, st, h => memsR_len (n := n) (st := (memR st).2) (memR_len h)
theorem entryR_len {st : Int × List UInt8} {k : Nat} (h : st.2.length ≤ k) : (entryR st).2.2.length ≤ k := restR_len (intR_len h)
theorem configR_len {st : Int × List UInt8} {k : Nat} (h : st.2.length ≤ k) : (configR st).2.2.length ≤ k := memsR_len (countR_len (intR_len h))
theorem memsR_snoc : ∀ (n : Nat) (st : Int × List UInt8), (memsR (n + 1) st).1 = (memsR n st).1 ++ [(memR (memsR n st).2).1] ∧ (memsR (n + 1) st).2 = (memR (memsR n st).2).2
  | 0, st => ⟨rfl, rfl⟩
  | n + 1, st => by
    have h := memsR_snoc n (memR st).2
    exact ⟨by show (memR st).1 :: (memsR (n + 1) (memR st).2).1 = _; rw [h.1]; rfl, h.2⟩
theorem memsR_fst_len : ∀ (n : Nat) (st : Int × List UInt8), (memsR n st).1.length = n
  | 0, _ => rfl
  | n + 1, st => by show (_ :: _).length = _; rw [List.length_cons, memsR_fst_len n]
theorem countR_le {m : Int} {st : Int × List UInt8} (hm : 0 ≤ m) : 0 ≤ (countR m st).1 ∧ (countR m st).1 ≤ m := by
  unfold countR takeS
  split
  · exact ⟨Int.le_refl _, hm⟩
  · split
    · exact ⟨Int.le_refl _, hm⟩
    · split
      · rename_i h
        simp [countG] at h
        exact ⟨h.1.1, h.1.2⟩
      · exact ⟨Int.le_refl _, hm⟩
theorem takeRest_ac (pos : Int) (st : Int × List UInt8) (hst : st.2.length ≤ 100000000) :
    AC Try.prog 67 [.bp 0 0 0, I pos] [rB st] (fun v bs => v = .ag (eE none (restR pos st).1) ∧ bs = [rB (restR pos st).2]) := by
  have h1 := intR_len hst
  have h2 := intR_len h1
  have h3 := intR_len h2
  refine AC.N Try.func67 Try.ntmps67 ?_
  intro X
  simp only [nx, Nat.reduceAdd, Nat.reduceSub, BEq.rfl]
  repeat' (first
    | ((first
    | ((with_reducible apply AP.k_any); first
             | refine AP.S ?_
      )
    | ((with_reducible apply AP.k_any); refine AP.CB [(0, 0)] 0 (rbytes_ac (intR (intR (intR st).2).2).2 h3) ?_)
    | ((with_reducible apply AP.k_any); refine AP.CB [(0, 0)] 0 (rint_ac (intR (intR st).2).2 h2) ?_)
    | ((with_reducible apply AP.k_any); refine AP.CB [(0, 0)] 0 (rint_ac (intR st).2 h1) ?_)
    | ((with_reducible apply AP.k_any); refine AP.CB [(0, 0)] 0 (rint_ac st hst) ?_)
    )
      <;> (try simp only [nx, Nat.reduceAdd, Nat.reduceSub, BEq.rfl]))
    | ((with_reducible apply AP.k_nil); first
        | (refine AP.nil (hQ' _ ?_); clear hQ' Q')
        | refine AP.nil ?_)
    | ((with_reducible apply CP.k_reg); refine cp_regG fun Q' hQ' => ?_)
      | (with_reducible apply CP.k_reg1; refine cp_region ?_)
      | ((with_reducible apply CP.k_cond); first | refine cp_condT rfl ?_ | refine cp_condF rfl ?_ | refine cp_cond rfl (fun hc => ?_) (fun hc => ?_))
      | refine CP.go ?_
      | (simp only [List.append_eq, List.cons_append, List.nil_append]))
  (exact RetQ.A [(0, 0)] (by exact ⟨rfl, rfl⟩))
theorem takeEntry_ac (st : Int × List UInt8) (hst : st.2.length ≤ 100000000) :
    AC Try.prog 33 [.bp 0 0 0] [rB st] (fun v bs => v = .ag (eE none (entryR st).1) ∧ bs = [rB (entryR st).2]) := by
  have h1 := intR_len hst
  refine AC.N Try.func33 Try.ntmps33 ?_
  intro X
  simp only [nx, Nat.reduceAdd, Nat.reduceSub, BEq.rfl]
  repeat' (first
    | ((first
    | ((with_reducible apply AP.k_any); first
             | refine AP.S ?_
      )
    | ((with_reducible apply AP.k_any); refine AP.CB [(0, 0)] 0 (rint_ac st hst) ?_)
    | ((with_reducible apply AP.k_any); refine AP.CB [(0, 0)] 0 (takeRest_ac _ _ h1) ?_)
    )
      <;> (try simp only [nx, Nat.reduceAdd, Nat.reduceSub, BEq.rfl]))
    | ((with_reducible apply AP.k_nil); first
        | (refine AP.nil (hQ' _ ?_); clear hQ' Q')
        | refine AP.nil ?_)
    | ((with_reducible apply CP.k_reg); refine cp_regG fun Q' hQ' => ?_)
      | (with_reducible apply CP.k_reg1; refine cp_region ?_)
      | ((with_reducible apply CP.k_cond); first | refine cp_condT rfl ?_ | refine cp_condF rfl ?_ | refine cp_cond rfl (fun hc => ?_) (fun hc => ?_))
      | refine CP.go ?_
      | (simp only [List.append_eq, List.cons_append, List.nil_append]))
  (exact RetQ.A [(0, 0)] (by exact ⟨rfl, rfl⟩))
theorem takeConfig_ac (st : Int × List UInt8) (hst : st.2.length ≤ 100000000) :
    AC Try.prog 34 [.bp 0 0 0] [rB st] (fun v bs => v = .ag (eC none (configR st).1) ∧ bs = [rB (configR st).2]) := by
  have h1 := intR_len hst
  have h2 := countR_len (m := 5) h1
  obtain ⟨hc0, hc5⟩ := countR_le (m := 5) (st := (intR st).2) (by omega)
  refine AC.N Try.func34 Try.ntmps34 ?_
  intro X
  simp only [nx, Nat.reduceAdd, Nat.reduceSub, BEq.rfl]
  repeat' (first
    | ((first
    | ((with_reducible apply AP.k_any); first
             | refine AP.S ?_
      )
    | ((with_reducible apply AP.k_any); refine AP.CB [(0, 0)] 0 (rint_ac st hst) ?_)
    | ((with_reducible apply AP.k_any); refine AP.CB [(0, 0)] 0 (rcount_ac 5 _ h1) ?_)
    )
      <;> (try simp only [nx, Nat.reduceAdd, Nat.reduceSub, BEq.rfl]))
    | ((with_reducible apply AP.k_nil); first
        | (refine AP.nil (hQ' _ ?_); clear hQ' Q')
        | refine AP.nil ?_)
    | ((with_reducible apply CP.k_reg); refine cp_regG fun Q' hQ' => ?_)
      | (with_reducible apply CP.k_reg1; refine cp_region ?_)
      | ((with_reducible apply CP.k_cond); first | refine cp_condT rfl ?_ | refine cp_condF rfl ?_ | refine cp_cond rfl (fun hc => ?_) (fun hc => ?_))
      | refine CP.go ?_
      | (simp only [List.append_eq, List.cons_append, List.nil_append]))
  refine CP.gh (gh_nilc (j := 2) (u := 1) (off := 1) (e := tM) (k := 3) rfl rfl) ?_
  simp only [nx, Nat.reduceAdd, Nat.reduceSub, BEq.rfl]
  refine CP.gh gh_slot ?_
  simp only [nx, Nat.reduceAdd, Nat.reduceSub, BEq.rfl]
  have h0 : (configR st) = (⟨(intR st).1, (memsR (countR 5 (intR st).2).1.toNat (countR 5 (intR st).2).2).1⟩, (memsR (countR 5 (intR st).2).1.toNat (countR 5 (intR st).2).2).2) := rfl
  rw [h0]
  clear h0
  obtain ⟨N, hN⟩ : ∃ N : Nat, (countR 5 (intR st).2).1 = N := ⟨(countR 5 (intR st).2).1.toNat, by omega⟩
  rw [hN] at hc5 ⊢
  rw [Int.toNat_natCast]
  generalize (countR 5 (intR st).2).2 = S0 at h2 ⊢
  refine cp_loopS [9, 10, 11, 12, 13, 14, 15, 16, 17, 18, 19, 20, 21, 22, 23] (fun a : Nat × Nat × Nat => N - a.1) (fun a => a.1 ≤ N) (fun a => [(9, I a.1)]) (fun a => [(0, ⟨0, rB (memsR a.1 S0).2⟩), (2, ⟨1, .c 27 [I (intR st).1, .hd 3 a.2.1]⟩), (3, ⟨a.2.1, .r tM 3 ((memsR a.1 S0).1.map eM)⟩), (4, ⟨a.2.2, .x⟩)]) (0, 1, 0) (Nat.zero_le _) (by exact Gh.W) ?_
  rintro ⟨k, u, v⟩ hk
  simp only [setT, deT, setB, List.set_cons_succ, List.set_cons_zero]
  dsimp only at hk
  have hS := memsR_len (n := k) h2
  have hL := memsR_fst_len k S0
  have hs1 := (memsR_snoc k S0).1
  have hs2 := (memsR_snoc k S0).2
  by_cases hlt : k < N
  · have hw : IntKind.i64.wrap ((k : Int) + 1) = ((k + 1 : Nat) : Int) := wrap_i64 (by omega) (by omega)
    generalize hms : memsR k S0 = ms at hS hL hs1 hs2 ⊢
    obtain ⟨ml, S⟩ := ms
    dsimp only at hS hL hs1 hs2 ⊢
    have g1 := intR_len hS
    have g2 := intR_len g1
    have hlen : (ml.map eM).length + 1 ≤ 1000000000 := by rw [List.length_map]; omega
    repeat' (first
      | ((first
      | ((with_reducible apply AP.k_any); first
               | refine AP.S ?_
        )
      
      )
        <;> (try simp only [nx, Nat.reduceAdd, Nat.reduceSub, BEq.rfl]))
      | ((with_reducible apply AP.k_nil); first
          | (refine AP.nil (hQ' _ ?_); clear hQ' Q')
          | refine AP.nil ?_)
      | ((with_reducible apply CP.k_reg); refine cp_regG fun Q' hQ' => ?_)
        | (with_reducible apply CP.k_reg1; refine cp_region ?_)
        | ((with_reducible apply CP.k_cond); first | refine cp_condT rfl ?_ | refine cp_condF rfl ?_ | refine cp_cond rfl (fun hc => ?_) (fun hc => ?_))
        | refine CP.go ?_
        | (simp only [List.append_eq, List.cons_append, List.nil_append]))
    · refine cp_drawI (fun zs zb => ⟨setT zs.t [(11, cond (zb.getD 0 false) (.bp 2 1 1) (.de)), (12, cond (zb.getD 1 false) (.hd 3 u) (.de)), (13, cond (zb.getD 2 false) (.bp 0 0 0) (.de)), (14, cond (zb.getD 3 false) (I (intR S).1) (.de)), (15, cond (zb.getD 4 false) (.bp 0 0 0) (.de)), (16, cond (zb.getD 5 false) (I (intR (intR S).2).1) (.de)), (17, cond (zb.getD 6 false) (.bp 0 0 0) (.de)), (18, cond (zb.getD 7 false) (B (flagR (intR (intR S).2).2).1) (.de)), (19, cond (zb.getD 8 false) (.ag (eM (memR S).1)) (.de)), (20, cond (zb.getD 9 false) (.hd 4 (v + 1)) (.de)), (21, cond (zb.getD 10 false) (.hd 3 (u + 1)) (.de)), (22, cond (zb.getD 11 false) (.bp 2 1 1) (.de))], ((((zs.b.set 0 (cond (zb.getD 7 false) (⟨0, rB (memR S).2⟩) (cond (zb.getD 5 false) (⟨0, rB (intR (intR S).2).2⟩) (cond (zb.getD 3 false) (⟨0, rB (intR S).2⟩) (zs.b.getD 0 ⟨0, .x⟩))))).set 2 (cond (zb.getD 12 false) (⟨1, .c 27 [I (intR st).1, .hd 3 (u + 1)]⟩) (zs.b.getD 2 ⟨0, .x⟩))).set 3 (cond (zb.getD 10 false) (⟨u + 1, .r tM 3 (ml.map eM ++ [eM (memR S).1])⟩) (zs.b.getD 3 ⟨0, .x⟩))).set 4 (cond (zb.getD 10 false) (⟨v + 1, .x⟩) (cond (zb.getD 9 false) (⟨v + 1, .r tM 3 [eM (memR S).1]⟩) (zs.b.getD 4 ⟨0, .x⟩))))⟩) (by kernel_rfl) (by kernel_rfl) (by kernel_rfl) ?_ ?_
      rotate_left
      simp only [cond_true, cond_false, setT, List.set_cons_succ, List.set_cons_zero, List.getD_cons_succ, List.getD_cons_zero, List.set_cons_succ, List.length_cons, List.length_nil, List.replicate_succ, List.replicate_zero, Nat.reduceAdd]
      rotate_left
      · intro b hb' hcl
        obtain ⟨l0, b0, rfl, hb0⟩ := len_cons hb'
        obtain ⟨l1, b1, rfl, hb1⟩ := len_cons hb0
        obtain ⟨l2, b2, rfl, hb2⟩ := len_cons hb1
        obtain ⟨l3, b3, rfl, hb3⟩ := len_cons hb2
        obtain ⟨l4, b4, rfl, hb4⟩ := len_cons hb3
        obtain ⟨l5, b5, rfl, hb5⟩ := len_cons hb4
        obtain ⟨l6, b6, rfl, hb6⟩ := len_cons hb5
        obtain ⟨l7, b7, rfl, hb7⟩ := len_cons hb6
        obtain ⟨l8, b8, rfl, hb8⟩ := len_cons hb7
        obtain ⟨l9, b9, rfl, hb9⟩ := len_cons hb8
        obtain ⟨l10, b10, rfl, hb10⟩ := len_cons hb9
        obtain ⟨l11, b11, rfl, hb11⟩ := len_cons hb10
        obtain ⟨l12, b12, rfl, hb12⟩ := len_cons hb11
        obtain rfl := List.length_eq_zero_iff.1 hb12
        clear hb' hb0 hb1 hb2 hb3 hb4 hb5 hb6 hb7 hb8 hb9 hb10 hb11 hb12
        · simp only [closedB, depsOk, Region.binds, List.toList_toArray, List.all_cons, List.all_nil, List.getD_cons_succ, List.getD_cons_zero, Bool.not_true, Bool.not_false, Bool.true_or, Bool.false_or, Bool.and_true, Bool.true_and, Bool.or_true, Bool.and_false, Bool.or_false, Bool.false_and, Bool.and_eq_true, Bool.or_eq_true, Bool.not_eq_true'] at hcl
          simp only [StepsP]
          refine ⟨?_, ?_, ?_, ?_, ?_, ?_, ?_, ?_, ?_, ?_, ?_, ?_, ?_, trivial⟩
          · intro h1 h2
            simp [depsOk, Region.binds] at h1 h2
            subst h1
            (repeat (obtain ⟨rfl, h2⟩ := h2))
            (try subst h2)
            clear hcl
            simp only [cond_true, cond_false, setT, List.set_cons_succ, List.set_cons_zero, List.getD_cons_succ, List.getD_cons_zero, List.set_cons_succ]
            (with_reducible apply AP.k_any); first | (refine AP.sm false rfl ?_ ?_; focus ((repeat' (with_reducible apply And.intro)) <;> (first | exact True.intro | exact rfl | omega | (simp; omega) | (simp; done) | assumption | exact .inl rfl | (refine .inr ?_; simp; try omega)))) | fail "no step"
            all_goals (try simp only [nx, Nat.reduceAdd, Nat.reduceSub, BEq.rfl])
            refine AP.nil ?_
            exact ⟨rfl, rfl⟩
          · intro h1 h2
            simp [depsOk, Region.binds] at h1 h2
            subst h1
            (repeat (obtain ⟨rfl, h2⟩ := h2))
            (try subst h2)
            (first | (obtain rfl : l10 = false := by grind only) | skip)
            (first | (obtain rfl : l12 = false := by grind only) | skip)
            clear hcl
            simp only [cond_true, cond_false, setT, List.set_cons_succ, List.set_cons_zero, List.getD_cons_succ, List.getD_cons_zero, List.set_cons_succ]
            (with_reducible apply AP.k_any); first | (refine AP.sm false rfl ?_ ?_; focus ((repeat' (with_reducible apply And.intro)) <;> (first | exact True.intro | exact rfl | omega | (simp; omega) | (simp; done) | assumption | exact .inl rfl | (refine .inr ?_; simp; try omega)))) | (refine AP.el rfl ?_ (by (first | (refine ⟨?_, ?_⟩; assumption; rfl) | exact ⟨mapAt (by (first | omega | (simp; omega) | (simp; done) | assumption)), rfl⟩ | exact ⟨rfl, rfl⟩)) ?_; focus ((repeat' (with_reducible apply And.intro)) <;> (first | exact True.intro | exact rfl | omega | (simp; omega) | (simp; done) | assumption | exact .inl rfl | (refine .inr ?_; simp; try omega)))) | fail "no step"
            all_goals (try simp only [nx, Nat.reduceAdd, Nat.reduceSub, BEq.rfl])
            refine AP.nil ?_
            exact ⟨rfl, rfl⟩
          · intro h1 h2
            simp [depsOk, Region.binds] at h1 h2
            subst h1
            (repeat (obtain ⟨rfl, h2⟩ := h2))
            (try subst h2)
            clear hcl
            simp only [cond_true, cond_false, setT, List.set_cons_succ, List.set_cons_zero, List.getD_cons_succ, List.getD_cons_zero, List.set_cons_succ]
            (with_reducible apply AP.k_any); first | (refine AP.sm false rfl ?_ ?_; focus ((repeat' (with_reducible apply And.intro)) <;> (first | exact True.intro | exact rfl | omega | (simp; omega) | (simp; done) | assumption | exact .inl rfl | (refine .inr ?_; simp; try omega)))) | fail "no step"
            all_goals (try simp only [nx, Nat.reduceAdd, Nat.reduceSub, BEq.rfl])
            refine AP.nil ?_
            exact ⟨rfl, rfl⟩
          · intro h1 h2
            simp [depsOk, Region.binds] at h1 h2
            subst h1
            (repeat (obtain ⟨rfl, h2⟩ := h2))
            (try subst h2)
            (first | (obtain rfl : l5 = false := by grind only) | skip)
            (first | (obtain rfl : l7 = false := by grind only) | skip)
            (first | (obtain rfl : l9 = false := by grind only) | skip)
            (first | (obtain rfl : l10 = false := by grind only) | skip)
            (first | (obtain rfl : l12 = false := by grind only) | skip)
            clear hcl
            simp only [cond_true, cond_false, setT, List.set_cons_succ, List.set_cons_zero, List.getD_cons_succ, List.getD_cons_zero, List.set_cons_succ]
            (first
            | ((with_reducible apply AP.k_any); refine AP.CB [(0, 0)] 0 (rint_ac (intR S).2 g1) ?_)
            | ((with_reducible apply AP.k_any); refine AP.CB [(0, 0)] 0 (rint_ac S hS) ?_)
            | ((with_reducible apply AP.k_any); refine AP.CB [(0, 0)] 0 (rflag_ac _ g2) ?_)
            | fail "no arm")
            all_goals (try simp only [nx, Nat.reduceAdd, Nat.reduceSub, BEq.rfl])
            refine AP.nil ?_
            exact ⟨rfl, rfl⟩
          · intro h1 h2
            simp [depsOk, Region.binds] at h1 h2
            subst h1
            (repeat (obtain ⟨rfl, h2⟩ := h2))
            (try subst h2)
            clear hcl
            simp only [cond_true, cond_false, setT, List.set_cons_succ, List.set_cons_zero, List.getD_cons_succ, List.getD_cons_zero, List.set_cons_succ]
            (with_reducible apply AP.k_any); first | (refine AP.sm false rfl ?_ ?_; focus ((repeat' (with_reducible apply And.intro)) <;> (first | exact True.intro | exact rfl | omega | (simp; omega) | (simp; done) | assumption | exact .inl rfl | (refine .inr ?_; simp; try omega)))) | fail "no step"
            all_goals (try simp only [nx, Nat.reduceAdd, Nat.reduceSub, BEq.rfl])
            refine AP.nil ?_
            exact ⟨rfl, rfl⟩
          · intro h1 h2
            simp [depsOk, Region.binds] at h1 h2
            subst h1
            (repeat (obtain ⟨rfl, h2⟩ := h2))
            (try subst h2)
            (first | (obtain rfl : l3 = true := by grind only) | skip)
            (first | (obtain rfl : l7 = false := by grind only) | skip)
            (first | (obtain rfl : l9 = false := by grind only) | skip)
            (first | (obtain rfl : l10 = false := by grind only) | skip)
            (first | (obtain rfl : l12 = false := by grind only) | skip)
            clear hcl
            simp only [cond_true, cond_false, setT, List.set_cons_succ, List.set_cons_zero, List.getD_cons_succ, List.getD_cons_zero, List.set_cons_succ]
            (first
            | ((with_reducible apply AP.k_any); refine AP.CB [(0, 0)] 0 (rint_ac (intR S).2 g1) ?_)
            | ((with_reducible apply AP.k_any); refine AP.CB [(0, 0)] 0 (rint_ac S hS) ?_)
            | ((with_reducible apply AP.k_any); refine AP.CB [(0, 0)] 0 (rflag_ac _ g2) ?_)
            | fail "no arm")
            all_goals (try simp only [nx, Nat.reduceAdd, Nat.reduceSub, BEq.rfl])
            refine AP.nil ?_
            exact ⟨rfl, rfl⟩
          · intro h1 h2
            simp [depsOk, Region.binds] at h1 h2
            subst h1
            (repeat (obtain ⟨rfl, h2⟩ := h2))
            (try subst h2)
            clear hcl
            simp only [cond_true, cond_false, setT, List.set_cons_succ, List.set_cons_zero, List.getD_cons_succ, List.getD_cons_zero, List.set_cons_succ]
            (with_reducible apply AP.k_any); first | (refine AP.sm false rfl ?_ ?_; focus ((repeat' (with_reducible apply And.intro)) <;> (first | exact True.intro | exact rfl | omega | (simp; omega) | (simp; done) | assumption | exact .inl rfl | (refine .inr ?_; simp; try omega)))) | fail "no step"
            all_goals (try simp only [nx, Nat.reduceAdd, Nat.reduceSub, BEq.rfl])
            refine AP.nil ?_
            exact ⟨rfl, rfl⟩
          · intro h1 h2
            simp [depsOk, Region.binds] at h1 h2
            subst h1
            (repeat (obtain ⟨rfl, h2⟩ := h2))
            (try subst h2)
            (first | (obtain rfl : l3 = true := by grind only) | skip)
            (first | (obtain rfl : l5 = true := by grind only) | skip)
            (first | (obtain rfl : l9 = false := by grind only) | skip)
            (first | (obtain rfl : l10 = false := by grind only) | skip)
            (first | (obtain rfl : l12 = false := by grind only) | skip)
            clear hcl
            simp only [cond_true, cond_false, setT, List.set_cons_succ, List.set_cons_zero, List.getD_cons_succ, List.getD_cons_zero, List.set_cons_succ]
            (first
            | ((with_reducible apply AP.k_any); refine AP.CB [(0, 0)] 0 (rint_ac (intR S).2 g1) ?_)
            | ((with_reducible apply AP.k_any); refine AP.CB [(0, 0)] 0 (rint_ac S hS) ?_)
            | ((with_reducible apply AP.k_any); refine AP.CB [(0, 0)] 0 (rflag_ac _ g2) ?_)
            | fail "no arm")
            all_goals (try simp only [nx, Nat.reduceAdd, Nat.reduceSub, BEq.rfl])
            refine AP.nil ?_
            exact ⟨rfl, rfl⟩
          · intro h1 h2
            simp [depsOk, Region.binds] at h1 h2
            subst h1
            (repeat (obtain ⟨rfl, h2⟩ := h2))
            (try subst h2)
            clear hcl
            simp only [cond_true, cond_false, setT, List.set_cons_succ, List.set_cons_zero, List.getD_cons_succ, List.getD_cons_zero, List.set_cons_succ]
            (with_reducible apply AP.k_any); first | (refine AP.sm false rfl ?_ ?_; focus ((repeat' (with_reducible apply And.intro)) <;> (first | exact True.intro | exact rfl | omega | (simp; omega) | (simp; done) | assumption | exact .inl rfl | (refine .inr ?_; simp; try omega)))) | fail "no step"
            all_goals (try simp only [nx, Nat.reduceAdd, Nat.reduceSub, BEq.rfl])
            refine AP.nil ?_
            exact ⟨rfl, rfl⟩
          · intro h1 h2
            simp [depsOk, Region.binds] at h1 h2
            subst h1
            (repeat (obtain ⟨rfl, h2⟩ := h2))
            (try subst h2)
            (first | (obtain rfl : l3 = true := by grind only) | skip)
            (first | (obtain rfl : l5 = true := by grind only) | skip)
            (first | (obtain rfl : l7 = true := by grind only) | skip)
            (first | (obtain rfl : l10 = false := by grind only) | skip)
            (first | (obtain rfl : l12 = false := by grind only) | skip)
            clear hcl
            simp only [cond_true, cond_false, setT, List.set_cons_succ, List.set_cons_zero, List.getD_cons_succ, List.getD_cons_zero, List.set_cons_succ]
            (with_reducible apply AP.k_any); first | (refine AP.sm false rfl ?_ ?_; focus ((repeat' (with_reducible apply And.intro)) <;> (first | exact True.intro | exact rfl | omega | (simp; omega) | (simp; done) | assumption | exact .inl rfl | (refine .inr ?_; simp; try omega)))) | fail "no step"
            all_goals (try simp only [nx, Nat.reduceAdd, Nat.reduceSub, BEq.rfl])
            refine AP.nil ?_
            exact ⟨rfl, rfl⟩
          · intro h1 h2
            simp [depsOk, Region.binds] at h1 h2
            subst h1
            (repeat (obtain ⟨rfl, h2⟩ := h2))
            (try subst h2)
            (first | (obtain rfl : l3 = true := by grind only) | skip)
            (first | (obtain rfl : l5 = true := by grind only) | skip)
            (first | (obtain rfl : l7 = true := by grind only) | skip)
            (first | (obtain rfl : l9 = true := by grind only) | skip)
            (first | (obtain rfl : l12 = false := by grind only) | skip)
            clear hcl
            simp only [cond_true, cond_false, setT, List.set_cons_succ, List.set_cons_zero, List.getD_cons_succ, List.getD_cons_zero, List.set_cons_succ]
            (with_reducible apply AP.k_any); first | (refine AP.sm false rfl ?_ ?_; focus ((repeat' (with_reducible apply And.intro)) <;> (first | exact True.intro | exact rfl | omega | (simp; omega) | (simp; done) | assumption | exact .inl rfl | (refine .inr ?_; simp; try omega)))) | fail "no step"
            all_goals (try simp only [nx, Nat.reduceAdd, Nat.reduceSub, BEq.rfl])
            refine AP.nil ?_
            exact ⟨rfl, rfl⟩
          · intro h1 h2
            simp [depsOk, Region.binds] at h1 h2
            subst h1
            (repeat (obtain ⟨rfl, h2⟩ := h2))
            (try subst h2)
            clear hcl
            simp only [cond_true, cond_false, setT, List.set_cons_succ, List.set_cons_zero, List.getD_cons_succ, List.getD_cons_zero, List.set_cons_succ]
            (with_reducible apply AP.k_any); first | (refine AP.sm false rfl ?_ ?_; focus ((repeat' (with_reducible apply And.intro)) <;> (first | exact True.intro | exact rfl | omega | (simp; omega) | (simp; done) | assumption | exact .inl rfl | (refine .inr ?_; simp; try omega)))) | fail "no step"
            all_goals (try simp only [nx, Nat.reduceAdd, Nat.reduceSub, BEq.rfl])
            refine AP.nil ?_
            exact ⟨rfl, rfl⟩
          · intro h1 h2
            simp [depsOk, Region.binds] at h1 h2
            subst h1
            (repeat (obtain ⟨rfl, h2⟩ := h2))
            (try subst h2)
            (first | (obtain rfl : l3 = true := by grind only) | skip)
            (first | (obtain rfl : l5 = true := by grind only) | skip)
            (first | (obtain rfl : l7 = true := by grind only) | skip)
            (first | (obtain rfl : l9 = true := by grind only) | skip)
            (first | (obtain rfl : l10 = true := by grind only) | skip)
            clear hcl
            simp only [cond_true, cond_false, setT, List.set_cons_succ, List.set_cons_zero, List.getD_cons_succ, List.getD_cons_zero, List.set_cons_succ]
            (with_reducible apply AP.k_any); first | (refine AP.sm false rfl ?_ ?_; focus ((repeat' (with_reducible apply And.intro)) <;> (first | exact True.intro | exact rfl | omega | (simp; omega) | (simp; done) | assumption | exact .inl rfl | (refine .inr ?_; simp; try omega)))) | refine ap_storeE rfl rfl rfl rfl rfl rfl rfl rfl (by (first | (refine ⟨?_, ?_⟩; assumption; rfl) | exact ⟨mapAt (by (first | omega | (simp; omega) | (simp; done) | assumption)), rfl⟩ | exact ⟨rfl, rfl⟩)) (by exact rfl) ?_ | fail "no step"
            all_goals (try simp only [nx, Nat.reduceAdd, Nat.reduceSub, BEq.rfl])
            refine AP.nil ?_
            exact ⟨rfl, rfl⟩
      repeat' (first
        | ((first
        | ((with_reducible apply AP.k_any); first
                 | refine AP.S ?_
          )
        
        )
          <;> (try simp only [nx, Nat.reduceAdd, Nat.reduceSub, BEq.rfl]))
        | ((with_reducible apply AP.k_nil); first
            | (refine AP.nil (hQ' _ ?_); clear hQ' Q')
            | refine AP.nil ?_)
        | ((with_reducible apply CP.k_reg); refine cp_regG fun Q' hQ' => ?_)
          | (with_reducible apply CP.k_reg1; refine cp_region ?_)
          | ((with_reducible apply CP.k_cond); first | refine cp_condT rfl ?_ | refine cp_condF rfl ?_ | refine cp_cond rfl (fun hc => ?_) (fun hc => ?_))
          | refine CP.go ?_
          | (simp only [List.append_eq, List.cons_append, List.nil_append]))
      simp only [hw]
      refine ⟨(k + 1, u + 1, v + 1), by (dsimp only; omega), by (dsimp only; omega), ?_⟩
      dsimp only
      rw [hs1, hs2, List.map_append, List.map_cons, List.map_nil]
      exact Gh.W
    · exfalso; simp at *; omega
  · obtain rfl : k = N := by omega
    refine CP.gh (gh_fz (b := 3) (u := u) rfl rfl (by (repeat' (first | exact FzC.nil | apply FzC.cons | exact FzV.hd | apply FzV.ag | exact FzV.same))) (by (repeat' (first | exact FzB.nil | apply FzB.c | apply FzB.same | exact FzC.nil | apply FzC.cons | exact FzV.hd | apply FzV.ag | exact FzV.same)))) ?_
    simp only [ro_M]
    repeat' (first
      | ((first
      | ((with_reducible apply AP.k_any); first
               | refine AP.S ?_
        )
      
      )
        <;> (try simp only [nx, Nat.reduceAdd, Nat.reduceSub, BEq.rfl]))
      | ((with_reducible apply AP.k_nil); first
          | (refine AP.nil (hQ' _ ?_); clear hQ' Q')
          | refine AP.nil ?_)
      | ((with_reducible apply CP.k_reg); refine cp_regG fun Q' hQ' => ?_)
        | (with_reducible apply CP.k_reg1; refine cp_region ?_)
        | ((with_reducible apply CP.k_cond); first | refine cp_condT rfl ?_ | refine cp_condF rfl ?_ | refine cp_cond rfl (fun hc => ?_) (fun hc => ?_))
        | refine CP.go ?_
        | (simp only [List.append_eq, List.cons_append, List.nil_append]))
    all_goals first
      | (exfalso; simp at *; done)
      | (exfalso; simp at *; omega)
      | (exact RetQ.A [(0, 0)] (by exact ⟨rfl, rfl⟩))
end Go.Proofs.Ytpdegeknhapgmaa

namespace Go.Proofs.Ytpdegeknhapgmaa
set_option linter.unusedVariables false
set_option linter.unusedSimpArgs false
set_option maxHeartbeats 8000000
open Go.RowKit
set_option maxRecDepth 100000
abbrev nl : AV := .sc (.slice none 0 0)
/-- a message of a kind, read so far -/
abbrev eZ (k : UInt8) (c i : Int) (b : AV) (u f : Int) (e : AV) (h d ep : Int) (ms : AV) (s : Int) : Bx := .c tMsg [U k, I c, I i, b, I u, I f, e, I h, I d, I ep, ms, I s]
abbrev St := Int × List UInt8
def takeAsk (k : UInt8) (st : St) : Msg × St := ({ msg0 with kind := k, client := (intR st).1, id := (intR (intR st).2).1, body := (bytesR (intR (intR st).2).2).1 }, (bytesR (intR (intR st).2).2).2)
def takeHave (k : UInt8) (st : St) : Msg × St := ({ msg0 with kind := k, have_ := (intR st).1, done := (intR (intR st).2).1 }, (intR (intR st).2).2)
def takeCfg (k : UInt8) (st : St) : Msg × St := ({ msg0 with kind := k, cfg := (configR st).1 }, (configR st).2)
def takeWhole (k : UInt8) (st : St) : Msg × St := ({ msg0 with kind := k, since := (intR st).1 }, (intR st).2)
/-- n entries from a position on -/
def entsR (p : Int) : Nat → Nat → St → List Entry × St
  | _, 0, st => ([], st)
  | i, n + 1, st => ((restR (IntKind.i64.wrap (p + i)) st).1 :: (entsR p (i + 1) n (restR (IntKind.i64.wrap (p + i)) st).2).1, (entsR p (i + 1) n (restR (IntKind.i64.wrap (p + i)) st).2).2)
def takeEnt (k : UInt8) (st : St) : Msg × St :=
  ({ msg0 with kind := k, upto := (intR st).1, frm := (intR (intR st).2).1, entries := (entsR (intR (intR st).2).1 0 (countR 4 (intR (intR st).2).2).1.toNat (countR 4 (intR (intR st).2).2).2).1 },
    (entsR (intR (intR st).2).1 0 (countR 4 (intR (intR st).2).2).1.toNat (countR 4 (intR (intR st).2).2).2).2)
theorem ktake4_ac (k : UInt8) (st : St) (hst : st.2.length ≤ 100000000) :
    AC Try.prog 96 [.bp 0 0 0, .bp 1 0 0] [rB st, eZ k 0 0 nl 0 0 nl 0 0 0 nl 0] (fun v bs' => v = .tu [] ∧ bs' = [rB (takeAsk k st).2, .c tMsg (eG (takeAsk k st).1)]) := by
  have h1 := intR_len hst
  have h2 := intR_len h1
  refine AC.N Try.func96 Try.ntmps96 ?_
  intro X
  simp only [nx, Nat.reduceAdd, Nat.reduceSub, BEq.rfl]
  repeat' (first
    | ((first
    | ((with_reducible apply AP.k_any); first
             | refine AP.S ?_
      )
    | ((with_reducible apply AP.k_any); refine AP.CB [(0, 0)] 0 (rbytes_ac (intR (intR st).2).2 h2) ?_)
    | ((with_reducible apply AP.k_any); refine AP.CB [(0, 0)] 0 (rint_ac (intR st).2 h1) ?_)
    | ((with_reducible apply AP.k_any); refine AP.CB [(0, 0)] 0 (rint_ac st hst) ?_)
    )
      <;> (try simp only [nx, Nat.reduceAdd, Nat.reduceSub, BEq.rfl]))
    | ((with_reducible apply AP.k_nil); first
        | (refine AP.nil (hQ' _ ?_); clear hQ' Q')
        | refine AP.nil ?_)
    | ((with_reducible apply CP.k_reg); refine cp_regG fun Q' hQ' => ?_)
      | (with_reducible apply CP.k_reg1; refine cp_region ?_)
      | ((with_reducible apply CP.k_cond); first | refine cp_condT rfl ?_ | refine cp_condF rfl ?_ | refine cp_cond rfl (fun hc => ?_) (fun hc => ?_))
      | refine CP.go ?_
      | (simp only [List.append_eq, List.cons_append, List.nil_append]))
  (exact RetQ.A [(0, 0), (1, 0)] (by exact ⟨rfl, rfl⟩))
theorem ktake8_ac (k : UInt8) (st : St) (hst : st.2.length ≤ 100000000) :
    AC Try.prog 101 [.bp 0 0 0, .bp 1 0 0] [rB st, eZ k 0 0 nl 0 0 nl 0 0 0 nl 0] (fun v bs' => v = .tu [] ∧ bs' = [rB (takeHave k st).2, .c tMsg (eG (takeHave k st).1)]) := by
  have h1 := intR_len hst
  refine AC.N Try.func101 Try.ntmps101 ?_
  intro X
  simp only [nx, Nat.reduceAdd, Nat.reduceSub, BEq.rfl]
  repeat' (first
    | ((first
    | ((with_reducible apply AP.k_any); first
             | refine AP.S ?_
      )
    | ((with_reducible apply AP.k_any); refine AP.CB [(0, 0)] 0 (rint_ac (intR st).2 h1) ?_)
    | ((with_reducible apply AP.k_any); refine AP.CB [(0, 0)] 0 (rint_ac st hst) ?_)
    )
      <;> (try simp only [nx, Nat.reduceAdd, Nat.reduceSub, BEq.rfl]))
    | ((with_reducible apply AP.k_nil); first
        | (refine AP.nil (hQ' _ ?_); clear hQ' Q')
        | refine AP.nil ?_)
    | ((with_reducible apply CP.k_reg); refine cp_regG fun Q' hQ' => ?_)
      | (with_reducible apply CP.k_reg1; refine cp_region ?_)
      | ((with_reducible apply CP.k_cond); first | refine cp_condT rfl ?_ | refine cp_condF rfl ?_ | refine cp_cond rfl (fun hc => ?_) (fun hc => ?_))
      | refine CP.go ?_
      | (simp only [List.append_eq, List.cons_append, List.nil_append]))
  (exact RetQ.A [(0, 0), (1, 0)] (by exact ⟨rfl, rfl⟩))
theorem ktake12_ac (k : UInt8) (st : St) (hst : st.2.length ≤ 100000000) :
    AC Try.prog 105 [.bp 0 0 0, .bp 1 0 0] [rB st, eZ k 0 0 nl 0 0 nl 0 0 0 nl 0] (fun v bs' => v = .tu [] ∧ bs' = [rB (takeCfg k st).2, .c tMsg (eG (takeCfg k st).1)]) := by
  refine AC.N Try.func105 Try.ntmps105 ?_
  intro X
  simp only [nx, Nat.reduceAdd, Nat.reduceSub, BEq.rfl]
  repeat' (first
    | ((first
    | ((with_reducible apply AP.k_any); first
             | refine AP.S ?_
      )
    | ((with_reducible apply AP.k_any); refine AP.CB [(0, 0)] 0 (takeConfig_ac st hst) ?_)
    )
      <;> (try simp only [nx, Nat.reduceAdd, Nat.reduceSub, BEq.rfl]))
    | ((with_reducible apply AP.k_nil); first
        | (refine AP.nil (hQ' _ ?_); clear hQ' Q')
        | refine AP.nil ?_)
    | ((with_reducible apply CP.k_reg); refine cp_regG fun Q' hQ' => ?_)
      | (with_reducible apply CP.k_reg1; refine cp_region ?_)
      | ((with_reducible apply CP.k_cond); first | refine cp_condT rfl ?_ | refine cp_condF rfl ?_ | refine cp_cond rfl (fun hc => ?_) (fun hc => ?_))
      | refine CP.go ?_
      | (simp only [List.append_eq, List.cons_append, List.nil_append]))
  (exact RetQ.A [(0, 0), (1, 0)] (by exact ⟨rfl, rfl⟩))
theorem ktake16_ac (k : UInt8) (st : St) (hst : st.2.length ≤ 100000000) :
    AC Try.prog 109 [.bp 0 0 0, .bp 1 0 0] [rB st, eZ k 0 0 nl 0 0 nl 0 0 0 nl 0] (fun v bs' => v = .tu [] ∧ bs' = [rB (takeWhole k st).2, .c tMsg (eG (takeWhole k st).1)]) := by
  refine AC.N Try.func109 Try.ntmps109 ?_
  intro X
  simp only [nx, Nat.reduceAdd, Nat.reduceSub, BEq.rfl]
  repeat' (first
    | ((first
    | ((with_reducible apply AP.k_any); first
             | refine AP.S ?_
      )
    | ((with_reducible apply AP.k_any); refine AP.CB [(0, 0)] 0 (rint_ac st hst) ?_)
    )
      <;> (try simp only [nx, Nat.reduceAdd, Nat.reduceSub, BEq.rfl]))
    | ((with_reducible apply AP.k_nil); first
        | (refine AP.nil (hQ' _ ?_); clear hQ' Q')
        | refine AP.nil ?_)
    | ((with_reducible apply CP.k_reg); refine cp_regG fun Q' hQ' => ?_)
      | (with_reducible apply CP.k_reg1; refine cp_region ?_)
      | ((with_reducible apply CP.k_cond); first | refine cp_condT rfl ?_ | refine cp_condF rfl ?_ | refine cp_cond rfl (fun hc => ?_) (fun hc => ?_))
      | refine CP.go ?_
      | (simp only [List.append_eq, List.cons_append, List.nil_append]))
  (exact RetQ.A [(0, 0), (1, 0)] (by exact ⟨rfl, rfl⟩))
theorem entsR_len {p : Int} {k : Nat} : ∀ {n i : Nat} {st : St}, st.2.length ≤ k → (entsR p i n st).2.2.length ≤ k
  | 0, _, _, h => h
  | n + 1, i, st, h => entsR_len (n := n) (i := i + 1) (restR_len h)
theorem entsR_fst_len (p : Int) : ∀ (n i : Nat) (st : St), (entsR p i n st).1.length = n
  | 0, _, _ => rfl
  | n + 1, i, st => by show (_ :: _).length = _; rw [List.length_cons, entsR_fst_len p n]
theorem entsR_snoc (p : Int) : ∀ (n i : Nat) (st : St), (entsR p i (n + 1) st).1 = (entsR p i n st).1 ++ [(restR (IntKind.i64.wrap (p + ((i + n : Nat) : Int))) (entsR p i n st).2).1] ∧ (entsR p i (n + 1) st).2 = (restR (IntKind.i64.wrap (p + ((i + n : Nat) : Int))) (entsR p i n st).2).2
  | 0, i, st => ⟨rfl, rfl⟩
  | n + 1, i, st => by
    have h := entsR_snoc p n (i + 1) (restR (IntKind.i64.wrap (p + i)) st).2
    have e : i + 1 + n = i + (n + 1) := by omega
    rw [e] at h
    refine ⟨?_, ?_⟩
    · show _ :: (entsR p (i + 1) (n + 1) _).1 = _
      rw [h.1]; rfl
    · show (entsR p (i + 1) (n + 1) _).2 = _
      rw [h.2]; rfl
end Go.Proofs.Ytpdegeknhapgmaa

namespace Go.Proofs.Ytpdegeknhapgmaa
set_option linter.unusedVariables false
set_option linter.unusedSimpArgs false
set_option maxHeartbeats 8000000
open Go.RowKit
set_option maxRecDepth 100000
theorem etake4_ac (k : UInt8) (st : St) (hst : st.2.length ≤ 100000000) :
    AC Try.prog 122 [.bp 0 0 0, .bp 1 0 0] [rB st, eZ k 0 0 nl 0 0 nl 0 0 0 nl 0] (fun v bs' => v = .tu [] ∧ bs' = [rB (takeEnt k st).2, .c tMsg (eG (takeEnt k st).1)]) := by
  have h1 := intR_len hst
  have h2 := intR_len h1
  have h3 := countR_len (m := 4) h2
  obtain ⟨hc0, hc5⟩ := countR_le (m := 4) (st := (intR (intR st).2).2) (by omega)
  refine AC.N Try.func122 Try.ntmps122 ?_
  intro X
  simp only [nx, Nat.reduceAdd, Nat.reduceSub, BEq.rfl]
  repeat' (first
    | ((first
    | ((with_reducible apply AP.k_any); first
             | refine AP.S ?_
      )
    | ((with_reducible apply AP.k_any); refine AP.CB [(0, 0)] 0 (rint_ac (intR st).2 h1) ?_)
    | ((with_reducible apply AP.k_any); refine AP.CB [(0, 0)] 0 (rint_ac st hst) ?_)
    | ((with_reducible apply AP.k_any); refine AP.CB [(0, 0)] 0 (rcount_ac 4 _ h2) ?_)
    )
      <;> (try simp only [nx, Nat.reduceAdd, Nat.reduceSub, BEq.rfl]))
    | ((with_reducible apply AP.k_nil); first
        | (refine AP.nil (hQ' _ ?_); clear hQ' Q')
        | refine AP.nil ?_)
    | ((with_reducible apply CP.k_reg); refine cp_regG fun Q' hQ' => ?_)
      | (with_reducible apply CP.k_reg1; refine cp_region ?_)
      | ((with_reducible apply CP.k_cond); first | refine cp_condT rfl ?_ | refine cp_condF rfl ?_ | refine cp_cond rfl (fun hc => ?_) (fun hc => ?_))
      | refine CP.go ?_
      | (simp only [List.append_eq, List.cons_append, List.nil_append]))
  refine CP.gh (gh_nilc (j := 1) (u := 0) (off := 6) (e := tE) (k := 5) rfl rfl) ?_
  simp only [nx, Nat.reduceAdd, Nat.reduceSub, BEq.rfl]
  refine CP.gh gh_slot ?_; simp only [nx, Nat.reduceAdd, Nat.reduceSub, BEq.rfl]
  have h0 : takeEnt k st = ({ msg0 with kind := k, upto := (intR st).1, frm := (intR (intR st).2).1, entries := (entsR (intR (intR st).2).1 0 (countR 4 (intR (intR st).2).2).1.toNat (countR 4 (intR (intR st).2).2).2).1 }, (entsR (intR (intR st).2).1 0 (countR 4 (intR (intR st).2).2).1.toNat (countR 4 (intR (intR st).2).2).2).2) := rfl
  rw [h0]
  clear h0
  obtain ⟨n, hN⟩ : ∃ n : Nat, (countR 4 (intR (intR st).2).2).1 = n := ⟨(countR 4 (intR (intR st).2).2).1.toNat, by omega⟩
  rw [hN] at hc5 ⊢
  rw [Int.toNat_natCast]
  generalize (countR 4 (intR (intR st).2).2).2 = S0 at h3 ⊢
  generalize (intR (intR st).2).1 = p
  generalize (intR st).1 = up
  refine cp_loopS [4, 17, 18, 19, 20, 21, 22, 23, 24, 25, 26, 27, 28, 29, 30, 31, 32, 33, 34, 35, 36, 37] (fun a : Nat × Nat × Nat => n - a.1) (fun a => a.1 ≤ n) (fun a => [(17, I a.1)]) (fun a => [(0, ⟨0, rB (entsR p 0 a.1 S0).2⟩), (1, ⟨0, eZ k 0 0 nl up p (.hd 2 a.2.1) 0 0 0 nl 0⟩), (2, ⟨a.2.1, .r tE 5 ((entsR p 0 a.1 S0).1.map (eE none))⟩), (3, ⟨a.2.2, .x⟩)]) (0, 1, 0) (Nat.zero_le _) (by exact Gh.W) ?_
  rintro ⟨i, u, v⟩ hk
  simp only [setT, deT, setB, List.set_cons_succ, List.set_cons_zero]
  dsimp only at hk
  have hS := entsR_len (p := p) (n := i) (i := 0) h3
  have hL := entsR_fst_len p i 0 S0
  have hs1 := (entsR_snoc p i 0 S0).1
  have hs2 := (entsR_snoc p i 0 S0).2
  rw [Nat.zero_add] at hs1 hs2
  by_cases hlt : i < n
  · have hw : IntKind.i64.wrap ((i : Int) + 1) = ((i + 1 : Nat) : Int) := wrap_i64 (by omega) (by omega)
    generalize hms : entsR p 0 i S0 = ms at hS hL hs1 hs2 ⊢
    obtain ⟨ml, S⟩ := ms
    dsimp only at hS hL hs1 hs2 ⊢
    have hlen : (ml.map (eE none)).length + 1 ≤ 1000000000 := by rw [List.length_map]; omega
    repeat' (first
      | ((first
      | ((with_reducible apply AP.k_any); first
               | refine AP.S ?_
        )
      | ((with_reducible apply AP.k_any); refine AP.CB [(0, 0)] 0 (takeRest_ac _ _ hS) ?_)
      | ((with_reducible apply DW.k_any); first
                  | refine DW.R ?_ | refine DW.R' ?_ | refine DW.W ?_ | refine DW.W' ?_
                  | (refine DW.known rfl ?_; (with_reducible first | apply DW.st 2 | apply DW.stN 2); (iterate 2 (focus (simp only [ft, nm, Nat.reduceAdd, Nat.reduceBEq, List.getElem?_cons_zero, List.getElem?_cons_succ]; exact rfl))); (focus (intro X V; simp only [ft, nm, Nat.reduceAdd, Nat.reduceBEq]; (try (refine AP.Y ?_; dsimp only)); (first | ((with_reducible apply AP.k_any); refine AP.CB [(0, 0)] 0 (takeRest_ac _ _ hS) ?_) | fail); (try simp only [nx, Nat.reduceAdd, Nat.reduceSub, BEq.rfl]); refine AP.nil ?_; (first | refine ⟨trivial, rfl, ?_⟩ | refine ⟨rfl, rfl, ?_⟩); (repeat' (first | exact Mg.nil | apply Mg.keep rfl | apply Mg.take rfl)); done)); (focus (refine Exists.intro (fun _ => 0) ?_; apply Exists.intro; (repeat' (first | exact Mg.nil | apply Mg.keep rfl | apply Mg.take rfl)); done)))
                  | ((fail_if_success refine DW.known rfl ?_); refine DW.G (fun hg => ?_) (fun hg => ?_))
      )
      )
        <;> (try simp only [nx, Nat.reduceAdd, Nat.reduceSub, BEq.rfl]))
      | ((with_reducible apply AP.k_nil); first
          | (refine AP.nil (hQ' _ ?_); clear hQ' Q')
          | refine AP.nil ?_)
      | ((with_reducible apply CP.k_drw); refine cp_drwX fun Q' hQ' => ?_)
      | ((with_reducible apply CP.k_drw1); refine cp_drawX ?_)
      | ((with_reducible apply DW.k_nil); refine DW.nl ?_; first | (refine hQ' _ ?_; clear hQ' Q') | skip)
      | ((with_reducible apply CP.k_reg); refine cp_regG fun Q' hQ' => ?_)
        | (with_reducible apply CP.k_reg1; refine cp_region ?_)
        | ((with_reducible apply CP.k_cond); first | refine cp_condT rfl ?_ | refine cp_condF rfl ?_ | refine cp_cond rfl (fun hc => ?_) (fun hc => ?_))
        | refine CP.go ?_
        | (simp only [List.append_eq, List.cons_append, List.nil_append]))
    · simp only [hw]
      refine ⟨(i + 1, u + 1, v + 1), by (dsimp only; omega), by (dsimp only; omega), ?_⟩
      dsimp only
      rw [hs1, hs2, List.map_append, List.map_cons, List.map_nil]
      exact Gh.W
    · exfalso; simp at *; omega
  · obtain rfl : i = n := by omega
    refine CP.gh (gh_fz (b := 2) (u := u) rfl rfl (by (repeat' (first | exact FzC.nil | apply FzC.cons | exact FzV.hd | apply FzV.ag | exact FzV.same))) (by (repeat' (first | exact FzB.nil | apply FzB.c | apply FzB.same | exact FzC.nil | apply FzC.cons | exact FzV.hd | apply FzV.ag | exact FzV.same)))) ?_
    simp only [ro_E]
    repeat' (first
      | ((first
      | ((with_reducible apply AP.k_any); first
               | refine AP.S ?_
        )
      
      | ((with_reducible apply DW.k_any); first
                  | refine DW.R ?_ | refine DW.R' ?_ | refine DW.W ?_ | refine DW.W' ?_
                  | (refine DW.known rfl ?_; (with_reducible first | apply DW.st 2 | apply DW.stN 2); (iterate 2 (focus (simp only [ft, nm, Nat.reduceAdd, Nat.reduceBEq, List.getElem?_cons_zero, List.getElem?_cons_succ]; exact rfl))); (focus (intro X V; simp only [ft, nm, Nat.reduceAdd, Nat.reduceBEq]; (try (refine AP.Y ?_; dsimp only)); (first  | fail); (try simp only [nx, Nat.reduceAdd, Nat.reduceSub, BEq.rfl]); refine AP.nil ?_; (first | refine ⟨trivial, rfl, ?_⟩ | refine ⟨rfl, rfl, ?_⟩); (repeat' (first | exact Mg.nil | apply Mg.keep rfl | apply Mg.take rfl)); done)); (focus (refine Exists.intro (fun _ => 0) ?_; apply Exists.intro; (repeat' (first | exact Mg.nil | apply Mg.keep rfl | apply Mg.take rfl)); done)))
                  | ((fail_if_success refine DW.known rfl ?_); refine DW.G (fun hg => ?_) (fun hg => ?_))
      )
      )
        <;> (try simp only [nx, Nat.reduceAdd, Nat.reduceSub, BEq.rfl]))
      | ((with_reducible apply AP.k_nil); first
          | (refine AP.nil (hQ' _ ?_); clear hQ' Q')
          | refine AP.nil ?_)
      | ((with_reducible apply CP.k_drw); refine cp_drwX fun Q' hQ' => ?_)
      | ((with_reducible apply CP.k_drw1); refine cp_drawX ?_)
      | ((with_reducible apply DW.k_nil); refine DW.nl ?_; first | (refine hQ' _ ?_; clear hQ' Q') | skip)
      | ((with_reducible apply CP.k_reg); refine cp_regG fun Q' hQ' => ?_)
        | (with_reducible apply CP.k_reg1; refine cp_region ?_)
        | ((with_reducible apply CP.k_cond); first | refine cp_condT rfl ?_ | refine cp_condF rfl ?_ | refine cp_cond rfl (fun hc => ?_) (fun hc => ?_))
        | refine CP.go ?_
        | (simp only [List.append_eq, List.cons_append, List.nil_append]))
    all_goals first
      | (exfalso; simp at *; done)
      | (exfalso; simp at *; omega)
      | (exact RetQ.A [(0, 0), (1, 0)] (by exact ⟨rfl, rfl⟩))
end Go.Proofs.Ytpdegeknhapgmaa

namespace Go.Proofs.Ytpdegeknhapgmaa
set_option linter.unusedVariables false
set_option linter.unusedSimpArgs false
set_option maxHeartbeats 8000000
open Go.RowKit
set_option maxRecDepth 100000
def takeM (k : UInt8) (st : St) : Msg × St := match k.toNat with
  | 1 => takeAsk k st
  | 2 => takeEnt k st
  | 3 => takeHave k st
  | 4 => takeCfg k st
  | 5 => takeWhole k st
  | 6 => takeAsk k st
  | _ => (msg0, (40, []))
def readM (b : List UInt8) : Msg × St := takeM (byteR (newR b)).1 (byteR (newR b)).2
def parseM (b : List UInt8) : Msg × Int := if endR (readM b).2 = 0 ∧ mayM (readM b).1 = true then ((readM b).1, 0) else (msg0, 200)
theorem newR_le {b : List UInt8} {k : Nat} (h : b.length ≤ k) : (newR b).2.length ≤ k := by
  unfold newR
  split
  · simp
  · exact h
theorem endR_eq {st : St} : endR st = 0 ∨ endR st ≠ 0 := by omega
theorem parseG_ac (f1 f2 f3 f4 : Nat) (b : List UInt8) (hb : b.length ≤ 100000000) (k : UInt8) (S S2 : St) (m : Msg) (hr : byteR (newR b) = (k, S)) (hR : readM b = (m, S2))
    (hof : AC Try.prog 53 [.ag (eG { msg0 with kind := k })] [] (fun v bs => v = .tu [.ag [fnv f1, fnv f2, fnv f3, fnv f4], B true] ∧ bs = []))
    (htk : AC Try.prog f4 [.bp 0 0 0, .bp 1 0 0] [rB S, eZ k 0 0 nl 0 0 nl 0 0 0 nl 0] (fun v bs' => v = .tu [] ∧ bs' = [rB S2, .c tMsg (eG m)]))
    (h1 : m.entries.length ≤ 100000000) (h2 : m.cfg.members.length ≤ 100000000) :
    AC Try.prog 28 [bs none b] [] (fun v bs' => v = .tu [.ag (eG (parseM b).1), I (parseM b).2] ∧ bs' = []) := by
  have hrb := rbyte_ac (newR b) (newR_le hb)
  rw [hr] at hrb
  dsimp only at hrb
  have hend := rend_ac S2
  have hm := mayMsg_ac m h1 h2
  unfold parseM
  rw [hR]
  dsimp only
  generalize hms : mayM m = mm at hm ⊢
  generalize hee : endR S2 = ee at hend ⊢
  by_cases hg : ee = 0 ∧ mm = true
  · obtain ⟨rfl, rfl⟩ := hg
    refine AC.N Try.func28 Try.ntmps28 ?_
    intro X
    simp only [nx, Nat.reduceAdd, Nat.reduceSub, BEq.rfl]
    repeat' (first
      | ((first
      | ((with_reducible apply AP.k_any); first
               | refine AP.S ?_
               | (refine AP.Y ?_; dsimp only) | refine AP.G (fun hg => ?_) (fun hg => ?_)
        )
      | ((with_reducible apply AP.k_any); refine AP.CB [] 1 (rnew_ac b hb) ?_)
        | ((with_reducible apply AP.k_any); refine AP.CB [(1, 1)] 0 (hrb) ?_)
        | ((with_reducible apply AP.k_any); refine AP.C (hof) ?_)
        | ((with_reducible apply AP.k_any); refine ap_callB 0 [(1, 1), (2, 1)] rfl rfl (fn := f4) rfl (htk) (by (repeat' (first | exact PasC.nil | apply PasC.nil | apply PasC.cons | apply PasV.leaf rfl | apply PasV.nl | apply PasV.bp rfl | apply PasV.lend rfl rfl rfl | apply PasV.lend rfl rfl (ro_B _) | apply PasV.lend rfl rfl (ro_M _) | apply PasV.lend rfl rfl (ro_E _ _) | apply PasV.lend rfl rfl (ro_I _) | apply PasV.mv rfl | apply PasV.ag | apply PasV.fn | exact PasV.fs | apply PasV.any))) (by (repeat' (first | exact Out.nil | apply Out.cons rfl | exact ClsC.nil | apply ClsC.nl | apply ClsC.leaf rfl | apply ClsC.hd rfl | apply ClsC.fn | apply ClsC.fz rfl (ro_B _) | apply ClsC.fz rfl (ro_M _) | apply ClsC.fz rfl (ro_E _ _) | apply ClsC.fz rfl rfl))) rfl (by (repeat' (first | exact Bk.nil | apply Bk.cons rfl rfl rfl))) (by (repeat' (first | exact RnV.leaf rfl | exact RnC.nil | apply RnC.cons | apply RnV.ag | apply RnV.tu | exact RnV.bp rfl))) rfl ?_)
        | ((with_reducible apply AP.k_any); refine AP.CB [(1, 1)] 0 (hend) ?_)
        | ((with_reducible apply AP.k_any); refine AP.C (hm) ?_)
      )
        <;> (try simp only [nx, Nat.reduceAdd, Nat.reduceSub, BEq.rfl]))
      | ((with_reducible apply AP.k_nil); first
          | (refine AP.nil (hQ' _ ?_); clear hQ' Q')
          | refine AP.nil ?_)
      | ((with_reducible apply CP.k_reg); refine cp_regG fun Q' hQ' => ?_)
        | (with_reducible apply CP.k_reg1; refine cp_region ?_)
        | ((with_reducible apply CP.k_cond); first | refine cp_condT rfl ?_ | refine cp_condF rfl ?_ | refine cp_cond rfl (fun hc => ?_) (fun hc => ?_))
        | refine CP.go ?_
        | (simp only [List.append_eq, List.cons_append, List.nil_append]))
    all_goals first
      | (exfalso; simp at *; done)
      | (exact RetQ.A [] (by exact ⟨rfl, rfl⟩))
  · rw [if_neg hg]
    refine AC.N Try.func28 Try.ntmps28 ?_
    intro X
    simp only [nx, Nat.reduceAdd, Nat.reduceSub, BEq.rfl]
    repeat' (first
      | ((first
      | ((with_reducible apply AP.k_any); first
               | refine AP.S ?_
               | (refine AP.Y ?_; dsimp only) | refine AP.G (fun hg => ?_) (fun hg => ?_)
        )
      | ((with_reducible apply AP.k_any); refine AP.CB [] 1 (rnew_ac b hb) ?_)
        | ((with_reducible apply AP.k_any); refine AP.CB [(1, 1)] 0 (hrb) ?_)
        | ((with_reducible apply AP.k_any); refine AP.C (hof) ?_)
        | ((with_reducible apply AP.k_any); refine ap_callB 0 [(1, 1), (2, 1)] rfl rfl (fn := f4) rfl (htk) (by (repeat' (first | exact PasC.nil | apply PasC.nil | apply PasC.cons | apply PasV.leaf rfl | apply PasV.nl | apply PasV.bp rfl | apply PasV.lend rfl rfl rfl | apply PasV.lend rfl rfl (ro_B _) | apply PasV.lend rfl rfl (ro_M _) | apply PasV.lend rfl rfl (ro_E _ _) | apply PasV.lend rfl rfl (ro_I _) | apply PasV.mv rfl | apply PasV.ag | apply PasV.fn | exact PasV.fs | apply PasV.any))) (by (repeat' (first | exact Out.nil | apply Out.cons rfl | exact ClsC.nil | apply ClsC.nl | apply ClsC.leaf rfl | apply ClsC.hd rfl | apply ClsC.fn | apply ClsC.fz rfl (ro_B _) | apply ClsC.fz rfl (ro_M _) | apply ClsC.fz rfl (ro_E _ _) | apply ClsC.fz rfl rfl))) rfl (by (repeat' (first | exact Bk.nil | apply Bk.cons rfl rfl rfl))) (by (repeat' (first | exact RnV.leaf rfl | exact RnC.nil | apply RnC.cons | apply RnV.ag | apply RnV.tu | exact RnV.bp rfl))) rfl ?_)
        | ((with_reducible apply AP.k_any); refine AP.CB [(1, 1)] 0 (hend) ?_)
        | ((with_reducible apply AP.k_any); refine AP.C (hm) ?_)
      )
        <;> (try simp only [nx, Nat.reduceAdd, Nat.reduceSub, BEq.rfl]))
      | ((with_reducible apply AP.k_nil); first
          | (refine AP.nil (hQ' _ ?_); clear hQ' Q')
          | refine AP.nil ?_)
      | ((with_reducible apply CP.k_reg); refine cp_regG fun Q' hQ' => ?_)
        | (with_reducible apply CP.k_reg1; refine cp_region ?_)
        | ((with_reducible apply CP.k_cond); first | refine cp_condT rfl ?_ | refine cp_condF rfl ?_ | refine cp_cond rfl (fun hc => ?_) (fun hc => ?_))
        | refine CP.go ?_
        | (simp only [List.append_eq, List.cons_append, List.nil_append]))
    all_goals first
      | (exfalso; simp at *; done)
      | (exfalso; simp at *; simp_all; done)
      | (exact RetQ.A [] (by exact ⟨rfl, rfl⟩))
theorem parse_ac (b : List UInt8) (hb : b.length ≤ 100000000) : AC Try.prog 28 [bs none b] [] (fun v bs' => v = .tu [.ag (eG (parseM b).1), I (parseM b).2] ∧ bs' = []) := by
  rcases kind_cases (byteR (newR b)).1 with hk | hk | hk | hk | hk | hk | hk
  · exact parseG_ac _ _ _ _ b hb _ _ (takeAsk (byteR (newR b)).1 (byteR (newR b)).2).2 (takeAsk (byteR (newR b)).1 (byteR (newR b)).2).1 rfl (by simp only [readM, takeM, hk]) (of1_ac { msg0 with kind := (byteR (newR b)).1 } hk) (ktake4_ac _ _ (byteR_len (newR_le hb))) (by simp [takeAsk, msg0]) (by simp [takeAsk, msg0, cfg0])
  · exact parseG_ac _ _ _ _ b hb _ _ (takeEnt (byteR (newR b)).1 (byteR (newR b)).2).2 (takeEnt (byteR (newR b)).1 (byteR (newR b)).2).1 rfl (by simp only [readM, takeM, hk]) (of2_ac { msg0 with kind := (byteR (newR b)).1 } hk) (etake4_ac _ _ (byteR_len (newR_le hb))) (by simp [takeEnt, entsR_fst_len]; have := countR_le (m := 4) (st := (intR (intR (byteR (newR b)).2).2).2) (by omega); omega) (by simp [takeEnt, msg0, cfg0])
  · exact parseG_ac _ _ _ _ b hb _ _ (takeHave (byteR (newR b)).1 (byteR (newR b)).2).2 (takeHave (byteR (newR b)).1 (byteR (newR b)).2).1 rfl (by simp only [readM, takeM, hk]) (of3_ac { msg0 with kind := (byteR (newR b)).1 } hk) (ktake8_ac _ _ (byteR_len (newR_le hb))) (by simp [takeHave, msg0]) (by simp [takeHave, msg0, cfg0])
  · exact parseG_ac _ _ _ _ b hb _ _ (takeCfg (byteR (newR b)).1 (byteR (newR b)).2).2 (takeCfg (byteR (newR b)).1 (byteR (newR b)).2).1 rfl (by simp only [readM, takeM, hk]) (of4_ac { msg0 with kind := (byteR (newR b)).1 } hk) (ktake12_ac _ _ (byteR_len (newR_le hb))) (by simp [takeCfg, msg0]) (by simp [takeCfg, configR]; rw [memsR_fst_len]; have := countR_le (m := 5) (st := (intR (byteR (newR b)).2).2) (by omega); omega)
  · exact parseG_ac _ _ _ _ b hb _ _ (takeWhole (byteR (newR b)).1 (byteR (newR b)).2).2 (takeWhole (byteR (newR b)).1 (byteR (newR b)).2).1 rfl (by simp only [readM, takeM, hk]) (of5_ac { msg0 with kind := (byteR (newR b)).1 } hk) (ktake16_ac _ _ (byteR_len (newR_le hb))) (by simp [takeWhole, msg0]) (by simp [takeWhole, msg0, cfg0])
  · exact parseG_ac _ _ _ _ b hb _ _ (takeAsk (byteR (newR b)).1 (byteR (newR b)).2).2 (takeAsk (byteR (newR b)).1 (byteR (newR b)).2).1 rfl (by simp only [readM, takeM, hk]) (of6_ac { msg0 with kind := (byteR (newR b)).1 } hk) (ktake4_ac _ _ (byteR_len (newR_le hb))) (by simp [takeAsk, msg0]) (by simp [takeAsk, msg0, cfg0])
  · have hn := newR_le hb
    have hof := ofNo_ac { msg0 with kind := (byteR (newR b)).1 } hk
    have hrb := rbyte_ac (newR b) hn
    have hR : readM b = (msg0, (40, [])) := by
      unfold readM takeM
      split <;> first | omega | rfl
    have hP : parseM b = (msg0, 200) := by rw [parseM, hR, if_neg (by simp [endR])]
    rw [hP]
    generalize (byteR (newR b)).2 = S at hrb ⊢
    generalize (byteR (newR b)).1 = k at hof hrb ⊢
    refine AC.N Try.func28 Try.ntmps28 ?_
    intro X
    simp only [nx, Nat.reduceAdd, Nat.reduceSub, BEq.rfl]
    repeat' (first
      | ((first
      | ((with_reducible apply AP.k_any); first
               | refine AP.S ?_
               | (refine AP.Y ?_; dsimp only) | refine AP.G (fun hg => ?_) (fun hg => ?_)
        )
      | ((with_reducible apply AP.k_any); refine AP.CB [] 1 (rnew_ac b hb) ?_)
        | ((with_reducible apply AP.k_any); refine AP.CB [(1, 1)] 0 (hrb) ?_)
        | ((with_reducible apply AP.k_any); refine AP.C (hof) ?_)
      )
        <;> (try simp only [nx, Nat.reduceAdd, Nat.reduceSub, BEq.rfl]))
      | ((with_reducible apply AP.k_nil); first
          | (refine AP.nil (hQ' _ ?_); clear hQ' Q')
          | refine AP.nil ?_)
      | ((with_reducible apply CP.k_reg); refine cp_regG fun Q' hQ' => ?_)
        | (with_reducible apply CP.k_reg1; refine cp_region ?_)
        | ((with_reducible apply CP.k_cond); first | refine cp_condT rfl ?_ | refine cp_condF rfl ?_ | refine cp_cond rfl (fun hc => ?_) (fun hc => ?_))
        | refine CP.go ?_
        | (simp only [List.append_eq, List.cons_append, List.nil_append]))
    all_goals first
      | (exfalso; simp at *; done)
      | (exact RetQ.A [] (by exact ⟨rfl, rfl⟩))
end Go.Proofs.Ytpdegeknhapgmaa

namespace Go.Proofs.Ytpdegeknhapgmaa
set_option linter.unusedVariables false
set_option linter.unusedSimpArgs false
set_option maxHeartbeats 8000000
open Go.RowKit
set_option maxRecDepth 100000
theorem eq_member (a b : Member) (w : World) : (Op.equal tM (.agg [.int .i64 a.node, .int .i64 a.since, .bool a.whole].toArray) (.agg [.int .i64 b.node, .int .i64 b.since, .bool b.whole].toArray)).run Try.prog w = .ok (a.node == b.node && a.since == b.since && a.whole == b.whole) w := by
  show (Op.equalIn (9999 + 1) tM _ _).run Try.prog w = _
  rw [run_equalIn_struct w 9999 tM _ _ (by kernel_rfl) (by kernel_rfl)]
  have hi := Try.underlying3
  have hb := Try.underlying4
  simp [Program.fieldsOf, Try.underlying70, Op.eqFields, go_sem, part, isAgg, hi, hb, run_underlying hi, run_underlying hb]
  by_cases h1 : a.node = b.node <;> by_cases h2 : a.since = b.since <;> by_cases h3 : a.whole = b.whole <;> simp [h1, h2, h3]
theorem sameEntry_ac (a b : Entry) (ha : a.body.length ≤ 1000000000) :
    AC Try.prog 36 [.ag (eE none a), .ag (eE none b)] [] (fun v bs' => v = B (eqE a b) ∧ bs' = []) := by
  refine AC.N Try.func36 Try.ntmps36 ?_
  intro X
  simp only [nx, Nat.reduceAdd, Nat.reduceSub, BEq.rfl]
  repeat' (first
    | ((first
    | ((with_reducible apply AP.k_any); first
             | refine AP.S ?_
             | (refine AP.Y ?_; dsimp only) | refine AP.G (fun hg => ?_) (fun hg => ?_)
      )
    | ((with_reducible apply AP.k_any); refine AP.CQ (same_ac _ _ ha) ?_)
    
    )
      <;> (try simp only [nx, Nat.reduceAdd, Nat.reduceSub, BEq.rfl]))
    | ((with_reducible apply AP.k_nil); first
        | (refine AP.nil (hQ' _ ?_); clear hQ' Q')
        | refine AP.nil ?_)
    | ((with_reducible apply CP.k_reg); refine cp_regG fun Q' hQ' => ?_)
      | (with_reducible apply CP.k_reg1; refine cp_region ?_)
      | ((with_reducible apply CP.k_cond); first | refine cp_condT rfl ?_ | refine cp_condF rfl ?_ | refine cp_cond rfl (fun hc => ?_) (fun hc => ?_))
      | refine CP.go ?_
      | (simp only [List.append_eq, List.cons_append, List.nil_append]))
  all_goals (refine RetQ.B [] ?_; (try dsimp only [resV, List.getD_cons_succ, List.getD_cons_zero]); (exact ⟨by simp_all [eqE], rfl⟩))
theorem sameConfig_ac (a b : Config) (ha : a.members.length ≤ 1000000000) :
    AC Try.prog 37 [.ag (eC none a), .ag (eC none b)] [] (fun v bs' => v = B (eqC a b) ∧ bs' = []) := by
  refine AC.N Try.func37 Try.ntmps37 ?_
  intro X
  simp only [nx, Nat.reduceAdd, Nat.reduceSub, BEq.rfl]
  repeat' (first
    | ((first
    | ((with_reducible apply AP.k_any); first
             | refine AP.S ?_
             | refine AP.E ?_
             | (refine AP.Y ?_; dsimp only) | refine AP.G (fun hg => ?_) (fun hg => ?_)
             | (refine AP.V (fun c hnil => ?_); simp only [nz])
      )
    
    | ((with_reducible apply AQ.k_any); first
                    | refine AQ.S ?_
                    | refine AQ.E ?_
                    | (refine AQ.Y ?_; dsimp only) | refine AQ.G (fun hg => ?_) (fun hg => ?_)
      )
    | ((with_reducible apply AQ.k_bin); refine AQ.pure rfl (pq_eqAg rfl rfl rfl rfl rfl (by kernel_rfl) (eq_member _ _) rfl) ?_; simp only [nx, Nat.reduceAdd, Nat.reduceSub, BEq.rfl]))
      <;> (try simp only [nx, Nat.reduceAdd, Nat.reduceSub, BEq.rfl]))
    | ((with_reducible apply AP.k_nil); first
        | (refine AP.nil (hQ' _ ?_); clear hQ' Q')
        | refine AP.nil ?_)
    | ((with_reducible apply AQ.k_nil); first | (refine AQ.nil (hQ' _ ?_); clear hQ' Q') | refine AQ.nil ?_)
    | ((with_reducible apply CP.k_drw); refine cp_drw (by kernel_rfl) (by kernel_rfl) fun Q' hQ' => ?_)
    | ((with_reducible apply CP.k_drw1); refine cp_draw (by kernel_rfl) (by kernel_rfl) ?_)
    | ((with_reducible apply CP.k_reg); refine cp_regG fun Q' hQ' => ?_)
      | (with_reducible apply CP.k_reg1; refine cp_region ?_)
      | ((with_reducible apply CP.k_cond); first | refine cp_condT rfl ?_ | refine cp_condF rfl ?_ | refine cp_cond rfl (fun hc => ?_) (fun hc => ?_))
      | refine CP.go ?_
      | (simp only [List.append_eq, List.cons_append, List.nil_append]))
  · (refine RetQ.B [] ?_; (try dsimp only [resV, List.getD_cons_succ, List.getD_cons_zero]); (exact ⟨by simp at hg; simp [eqC, hg], rfl⟩))
  · (refine RetQ.B [] ?_; (try dsimp only [resV, List.getD_cons_succ, List.getD_cons_zero]); ((have h8 : a.members.length ≠ b.members.length := by simp at hc; omega); exact ⟨by simp [eqC, eqMs_len h8], rfl⟩))
  · have hl : a.members.length = b.members.length := by simp at hc; omega
    have he0 : a.epoch = b.epoch := by simpa using hg
    refine cp_loopW (fun n s => ∃ k : Nat, k ≤ a.members.length ∧ n = a.members.length - k ∧ a.members.take k = b.members.take k ∧ s = ⟨tm 38 [(2, .bp 0 1 0), (3, .bp 1 1 0), (4, B false), (5, I k)], [⟨1, .c 27 (eC none a)⟩, ⟨1, .c 27 (eC none b)⟩]⟩) a.members.length ⟨tm 38 [(2, .bp 0 1 0), (3, .bp 1 1 0), (4, B false), (5, I (0 : Nat))], [⟨1, .c 27 (eC none a)⟩, ⟨1, .c 27 (eC none b)⟩]⟩ (by simp only [tm, List.foldl_cons, List.foldl_nil, List.replicate_succ, List.replicate_zero, List.set_cons_succ, List.set_cons_zero, Nat.reduceAdd]; (refine ⟨?_, ?_⟩ <;> (try dsimp only) <;> (repeat' (first | exact Wk.nil | exact WkB.nil | apply Wk.same | apply Wk.de | apply Wk.nl | apply WkB.same | apply WkB.drop)))) ⟨0, by omega, by omega, by simp, rfl⟩ ?_
    rintro n s ⟨k, hk, rfl, he, rfl⟩
    simp only [tm, List.foldl_cons, List.foldl_nil, List.replicate_succ, List.replicate_zero, List.set_cons_succ, List.set_cons_zero, Nat.reduceAdd]
    by_cases hlt : k < a.members.length
    · have hx : (a.members.map eM)[k]? = some (eM a.members[k]) := by simp [hlt]
      have hy : (b.members.map eM)[k]? = some (eM (b.members[k]'(by omega))) := by simp [show k < b.members.length by omega]
      have hw : IntKind.i64.wrap ((k : Int) + 1) = ((k + 1 : Nat) : Int) := wrap_i64 (by omega) (by omega)
      repeat' (first
        | ((first
        | ((with_reducible apply AP.k_any); first
                 | refine AP.S ?_
                 | refine AP.E ?_
                 | (refine AP.Y ?_; dsimp only) | refine AP.G (fun hg => ?_) (fun hg => ?_)
                 | (refine AP.V (fun c hnil => ?_); simp only [nz])
          )
        
        | ((with_reducible apply AQ.k_any); first
                        | refine AQ.S ?_
                        | refine AQ.E ?_
                        | (refine AQ.Y ?_; dsimp only) | refine AQ.G (fun hg => ?_) (fun hg => ?_)
          )
        | ((with_reducible apply AQ.k_bin); refine AQ.pure rfl (pq_eqAg rfl rfl rfl rfl rfl (by kernel_rfl) (eq_member _ _) rfl) ?_; simp only [nx, Nat.reduceAdd, Nat.reduceSub, BEq.rfl]))
          <;> (try simp only [nx, Nat.reduceAdd, Nat.reduceSub, BEq.rfl]))
        | ((with_reducible apply AP.k_nil); first
            | (refine AP.nil (hQ' _ ?_); clear hQ' Q')
            | refine AP.nil ?_)
        | ((with_reducible apply AQ.k_nil); first | (refine AQ.nil (hQ' _ ?_); clear hQ' Q') | refine AQ.nil ?_)
        | ((with_reducible apply CP.k_drw); refine cp_drw (by kernel_rfl) (by kernel_rfl) fun Q' hQ' => ?_)
        | ((with_reducible apply CP.k_drw1); refine cp_draw (by kernel_rfl) (by kernel_rfl) ?_)
        | ((with_reducible apply CP.k_reg); refine cp_regG fun Q' hQ' => ?_)
          | (with_reducible apply CP.k_reg1; refine cp_region ?_)
          | ((with_reducible apply CP.k_cond); first | refine cp_condT rfl ?_ | refine cp_condF rfl ?_ | refine cp_cond rfl (fun hc => ?_) (fun hc => ?_))
          | refine CP.go ?_
          | (simp only [List.append_eq, List.cons_append, List.nil_append]))
      · (refine RetQ.B [] ?_; (try dsimp only [resV, List.getD_cons_succ, List.getD_cons_zero]); ((have h : eqC a b = false := by (cases h9 : eqC a b with | false => rfl | true => (rw [eqC_iff] at h9; subst h9; simp at *))); exact ⟨by rw [h], rfl⟩))
      · simp only [hw]
        refine ⟨a.members.length - (k + 1), ⟨tm 38 [(2, .bp 0 1 0), (3, .bp 1 1 0), (4, B false), (5, I (k + 1 : Nat))], [⟨1, .c 27 (eC none a)⟩, ⟨1, .c 27 (eC none b)⟩]⟩, by omega, (by simp only [tm, List.foldl_cons, List.foldl_nil, List.replicate_succ, List.replicate_zero, List.set_cons_succ, List.set_cons_zero, Nat.reduceAdd]; (refine ⟨?_, ?_⟩ <;> (try dsimp only) <;> (repeat' (first | exact Wk.nil | exact WkB.nil | apply Wk.same | apply Wk.de | apply Wk.nl | apply WkB.same | apply WkB.drop)))), k + 1, by omega, rfl, take_ext he hlt (by omega) ?_, rfl⟩
        rename_i hc
        exact eqM_iff.1 (by simpa [eqM] using hc)
      · exfalso; simp at *; omega
    · have hk' : k = a.members.length := by omega
      have hab : a = b := by
        rw [hk', List.take_of_length_le (Nat.le_refl _), List.take_of_length_le (by omega)] at he
        cases a; cases b; simp at he he0 ⊢; exact ⟨he0, he⟩
      have h9 : eqC a b = true := eqC_iff.2 hab
      repeat' (first
        | ((first
        | ((with_reducible apply AP.k_any); first
                 | refine AP.S ?_
                 | refine AP.E ?_
                 | (refine AP.Y ?_; dsimp only) | refine AP.G (fun hg => ?_) (fun hg => ?_)
                 | (refine AP.V (fun c hnil => ?_); simp only [nz])
          )
        
        | ((with_reducible apply AQ.k_any); first
                        | refine AQ.S ?_
                        | refine AQ.E ?_
                        | (refine AQ.Y ?_; dsimp only) | refine AQ.G (fun hg => ?_) (fun hg => ?_)
          )
        | ((with_reducible apply AQ.k_bin); refine AQ.pure rfl (pq_eqAg rfl rfl rfl rfl rfl (by kernel_rfl) (eq_member _ _) rfl) ?_; simp only [nx, Nat.reduceAdd, Nat.reduceSub, BEq.rfl]))
          <;> (try simp only [nx, Nat.reduceAdd, Nat.reduceSub, BEq.rfl]))
        | ((with_reducible apply AP.k_nil); first
            | (refine AP.nil (hQ' _ ?_); clear hQ' Q')
            | refine AP.nil ?_)
        | ((with_reducible apply AQ.k_nil); first | (refine AQ.nil (hQ' _ ?_); clear hQ' Q') | refine AQ.nil ?_)
        | ((with_reducible apply CP.k_drw); refine cp_drw (by kernel_rfl) (by kernel_rfl) fun Q' hQ' => ?_)
        | ((with_reducible apply CP.k_drw1); refine cp_draw (by kernel_rfl) (by kernel_rfl) ?_)
        | ((with_reducible apply CP.k_reg); refine cp_regG fun Q' hQ' => ?_)
          | (with_reducible apply CP.k_reg1; refine cp_region ?_)
          | ((with_reducible apply CP.k_cond); first | refine cp_condT rfl ?_ | refine cp_condF rfl ?_ | refine cp_cond rfl (fun hc => ?_) (fun hc => ?_))
          | refine CP.go ?_
          | (simp only [List.append_eq, List.cons_append, List.nil_append]))
      all_goals first
        | (exfalso; simp at *; omega)
        | (refine RetQ.B [] ?_; (try dsimp only [resV, List.getD_cons_succ, List.getD_cons_zero]); (exact ⟨by rw [h9], rfl⟩))
theorem sameEntries_ac (a b : List Entry) (ha : a.length ≤ 1000000000) (hb : ∀ x ∈ a, x.body.length ≤ 1000000000) :
    AC Try.prog 66 [es none none a, es none none b] [] (fun v bs' => v = B (eqEs a b) ∧ bs' = []) := by
  refine AC.N Try.func66 Try.ntmps66 ?_
  intro X
  simp only [nx, Nat.reduceAdd, Nat.reduceSub, BEq.rfl]
  repeat' (first
    | ((first
    | ((with_reducible apply AP.k_any); first
             | refine AP.S ?_
             | refine AP.E ?_
             | (refine AP.V (fun c hnil => ?_); simp only [nz])
      )
    
    | ((with_reducible apply AQ.k_any); first
                    | refine AQ.S ?_
                    | refine AQ.E ?_
      )
    )
      <;> (try simp only [nx, Nat.reduceAdd, Nat.reduceSub, BEq.rfl]))
    | ((with_reducible apply AP.k_nil); first
        | (refine AP.nil (hQ' _ ?_); clear hQ' Q')
        | refine AP.nil ?_)
    | ((with_reducible apply AQ.k_nil); first | (refine AQ.nil (hQ' _ ?_); clear hQ' Q') | refine AQ.nil ?_)
    | ((with_reducible apply CP.k_drw); refine cp_drw (by kernel_rfl) (by kernel_rfl) fun Q' hQ' => ?_)
    | ((with_reducible apply CP.k_drw1); refine cp_draw (by kernel_rfl) (by kernel_rfl) ?_)
    | ((with_reducible apply CP.k_reg); refine cp_regG fun Q' hQ' => ?_)
      | (with_reducible apply CP.k_reg1; refine cp_region ?_)
      | ((with_reducible apply CP.k_cond); first | refine cp_condT rfl ?_ | refine cp_condF rfl ?_ | refine cp_cond rfl (fun hc => ?_) (fun hc => ?_))
      | refine CP.go ?_
      | (simp only [List.append_eq, List.cons_append, List.nil_append]))
  · (refine RetQ.B [] ?_; (try dsimp only [resV, List.getD_cons_succ, List.getD_cons_zero]); ((have h8 : a.length ≠ b.length := by simp at hc; omega); exact ⟨by simp [eqEs_len h8], rfl⟩))
  · have hl : a.length = b.length := by simp at hc; omega
    refine cp_loopW (fun n s => ∃ k : Nat, k ≤ a.length ∧ n = a.length - k ∧ a.take k = b.take k ∧ s = ⟨tm 27 [(0, es none none a), (1, es none none b), (4, B false), (5, I k)], []⟩) a.length ⟨tm 27 [(0, es none none a), (1, es none none b), (4, B false), (5, I (0 : Nat))], []⟩ (by simp only [tm, List.foldl_cons, List.foldl_nil, List.replicate_succ, List.replicate_zero, List.set_cons_succ, List.set_cons_zero, Nat.reduceAdd]; (refine ⟨?_, ?_⟩ <;> (try dsimp only) <;> (repeat' (first | exact Wk.nil | exact WkB.nil | apply Wk.same | apply Wk.de | apply Wk.nl | apply WkB.same | apply WkB.drop)))) ⟨0, by omega, by omega, by simp, rfl⟩ ?_
    rintro n s ⟨k, hk, rfl, he, rfl⟩
    simp only [tm, List.foldl_cons, List.foldl_nil, List.replicate_succ, List.replicate_zero, List.set_cons_succ, List.set_cons_zero, Nat.reduceAdd]
    by_cases hlt : k < a.length
    · have hx : (a.map (eE none))[k]? = some (eE none a[k]) := by simp [hlt]
      have hy : (b.map (eE none))[k]? = some (eE none (b[k]'(by omega))) := by simp [show k < b.length by omega]
      have hw : IntKind.i64.wrap ((k : Int) + 1) = ((k + 1 : Nat) : Int) := wrap_i64 (by omega) (by omega)
      repeat' (first
        | ((first
        | ((with_reducible apply AP.k_any); first
                 | refine AP.S ?_
                 | refine AP.E ?_
                 | (refine AP.V (fun c hnil => ?_); simp only [nz])
          )
        
        | ((with_reducible apply AQ.k_any); first
                        | refine AQ.S ?_
                        | refine AQ.E ?_
          )
        | ((with_reducible apply AQ.k_any); refine AQ.CQ (sameEntry_ac a[k] (b[k]'(by omega)) (hb _ (by simp))) ?_))
          <;> (try simp only [nx, Nat.reduceAdd, Nat.reduceSub, BEq.rfl]))
        | ((with_reducible apply AP.k_nil); first
            | (refine AP.nil (hQ' _ ?_); clear hQ' Q')
            | refine AP.nil ?_)
        | ((with_reducible apply AQ.k_nil); first | (refine AQ.nil (hQ' _ ?_); clear hQ' Q') | refine AQ.nil ?_)
        | ((with_reducible apply CP.k_drw); refine cp_drw (by kernel_rfl) (by kernel_rfl) fun Q' hQ' => ?_)
        | ((with_reducible apply CP.k_drw1); refine cp_draw (by kernel_rfl) (by kernel_rfl) ?_)
        | ((with_reducible apply CP.k_reg); refine cp_regG fun Q' hQ' => ?_)
          | (with_reducible apply CP.k_reg1; refine cp_region ?_)
          | ((with_reducible apply CP.k_cond); first | refine cp_condT rfl ?_ | refine cp_condF rfl ?_ | refine cp_cond rfl (fun hc => ?_) (fun hc => ?_))
          | refine CP.go ?_
          | (simp only [List.append_eq, List.cons_append, List.nil_append]))
      · (refine RetQ.B [] ?_; (try dsimp only [resV, List.getD_cons_succ, List.getD_cons_zero]); ((have h : eqEs a b = false := by (cases h9 : eqEs a b with | false => rfl | true => (rw [eqEs_iff] at h9; subst h9; simp [eqE] at *))); exact ⟨by rw [h], rfl⟩))
      · simp only [hw]
        refine ⟨a.length - (k + 1), ⟨tm 27 [(0, es none none a), (1, es none none b), (4, B false), (5, I (k + 1 : Nat))], []⟩, by omega, (by simp only [tm, List.foldl_cons, List.foldl_nil, List.replicate_succ, List.replicate_zero, List.set_cons_succ, List.set_cons_zero, Nat.reduceAdd]; (refine ⟨?_, ?_⟩ <;> (try dsimp only) <;> (repeat' (first | exact Wk.nil | exact WkB.nil | apply Wk.same | apply Wk.de | apply Wk.nl | apply WkB.same | apply WkB.drop)))), k + 1, by omega, rfl, take_ext he hlt (by omega) ?_, rfl⟩
        rename_i hc
        exact eqE_iff.1 (by simpa using hc)
      · exfalso; simp at *; omega
    · have hk' : k = a.length := by omega
      have hab : a = b := by
        rw [hk', List.take_of_length_le (Nat.le_refl _), List.take_of_length_le (by omega)] at he; exact he
      have h9 : eqEs a b = true := eqEs_iff.2 hab
      repeat' (first
        | ((first
        | ((with_reducible apply AP.k_any); first
                 | refine AP.S ?_
                 | refine AP.E ?_
                 | (refine AP.V (fun c hnil => ?_); simp only [nz])
          )
        
        | ((with_reducible apply AQ.k_any); first
                        | refine AQ.S ?_
                        | refine AQ.E ?_
          )
        )
          <;> (try simp only [nx, Nat.reduceAdd, Nat.reduceSub, BEq.rfl]))
        | ((with_reducible apply AP.k_nil); first
            | (refine AP.nil (hQ' _ ?_); clear hQ' Q')
            | refine AP.nil ?_)
        | ((with_reducible apply AQ.k_nil); first | (refine AQ.nil (hQ' _ ?_); clear hQ' Q') | refine AQ.nil ?_)
        | ((with_reducible apply CP.k_drw); refine cp_drw (by kernel_rfl) (by kernel_rfl) fun Q' hQ' => ?_)
        | ((with_reducible apply CP.k_drw1); refine cp_draw (by kernel_rfl) (by kernel_rfl) ?_)
        | ((with_reducible apply CP.k_reg); refine cp_regG fun Q' hQ' => ?_)
          | (with_reducible apply CP.k_reg1; refine cp_region ?_)
          | ((with_reducible apply CP.k_cond); first | refine cp_condT rfl ?_ | refine cp_condF rfl ?_ | refine cp_cond rfl (fun hc => ?_) (fun hc => ?_))
          | refine CP.go ?_
          | (simp only [List.append_eq, List.cons_append, List.nil_append]))
      all_goals first
        | (exfalso; simp at *; omega)
        | (refine RetQ.B [] ?_; (try dsimp only [resV, List.getD_cons_succ, List.getD_cons_zero]); (exact ⟨by rw [h9], rfl⟩))
end Go.Proofs.Ytpdegeknhapgmaa

namespace Go.Proofs.Ytpdegeknhapgmaa
set_option linter.unusedVariables false
set_option linter.unusedSimpArgs false
set_option maxHeartbeats 8000000
open Go.RowKit
set_option maxRecDepth 100000
def eqG (a b : Msg) : Bool := a.kind == b.kind && a.client == b.client && a.id == b.id && decide (a.body = b.body) && a.upto == b.upto && a.frm == b.frm && eqEs a.entries b.entries && a.have_ == b.have_ && a.done == b.done && eqC a.cfg b.cfg && a.since == b.since
theorem eqG_iff {a b : Msg} : eqG a b = true ↔ a = b := by
  cases a; cases b; simp [eqG, eqEs_iff, eqC_iff, and_assoc]
theorem ukind (a b : UInt8) : ((a.toNat : Int) == (b.toNat : Int)) = (a == b) := by
  rw [Bool.eq_iff_iff]; simp [← UInt8.toNat_inj]; try omega
theorem dsameG_ac (a b : Msg) (ha : a.small) : AC Try.prog 29 [.ag (eG a), .ag (eG b)] [] (fun v bs => v = B (eqG a b) ∧ bs = []) := by
  obtain ⟨h1, h2, h3, h4⟩ := ha
  refine AC.N Try.func29 Try.ntmps29 ?_
  intro X
  simp only [nx, Nat.reduceAdd, Nat.reduceSub, BEq.rfl]
  repeat' (first
    | ((first
    | ((with_reducible apply AP.k_any); first
             | refine AP.S ?_
             | (refine AP.Y ?_; dsimp only) | refine AP.G (fun hg => ?_) (fun hg => ?_)
      )
    | ((with_reducible apply AP.k_any); refine AP.C (same_ac a.body b.body (by omega)) ?_)
    | ((with_reducible apply AP.k_any); refine AP.C (sameEntries_ac a.entries b.entries (by omega) (fun x hx => by have := h4 x hx; omega)) ?_)
    | ((with_reducible apply AP.k_any); refine AP.C (sameConfig_ac a.cfg b.cfg (by omega)) ?_)
    )
      <;> (try simp only [nx, Nat.reduceAdd, Nat.reduceSub, BEq.rfl]))
    | ((with_reducible apply AP.k_nil); first
        | (refine AP.nil (hQ' _ ?_); clear hQ' Q')
        | refine AP.nil ?_)
    | ((with_reducible apply CP.k_reg); refine cp_regG fun Q' hQ' => ?_)
      | (with_reducible apply CP.k_reg1; refine cp_region ?_)
      | ((with_reducible apply CP.k_cond); first | refine cp_condT rfl ?_ | refine cp_condF rfl ?_ | refine cp_cond rfl (fun hc => ?_) (fun hc => ?_))
      | refine CP.go ?_
      | (simp only [List.append_eq, List.cons_append, List.nil_append]))
  all_goals (refine RetQ.B [] ?_; (try dsimp only [resV, List.getD_cons_succ, List.getD_cons_zero]); (exact ⟨by simp_all [eqG, ukind], rfl⟩))
def mA : Msg := { msg0 with kind := 3, have_ := 2, done := 1 }
def mB : Msg := { msg0 with kind := 3, have_ := 1, done := 2 }
def mC : Msg := { msg0 with kind := 5, since := 1, client := 1 }
def mD : Msg := { msg0 with kind := 5, since := 1 }
theorem small0 : msg0.small := by simp [Msg.small, msg0, cfg0]
theorem awake_ac : AC Try.prog 30 [] [] (fun v bs => v = B true ∧ bs = []) := by
  have pa := print_ac mA (by simp [Msg.small, mA, msg0, cfg0])
  have e1 : printS mA = ([3, 0, 0, 0, 0, 0, 0, 0, 2, 0, 0, 0, 0, 0, 0, 0, 1], 0) := by decide +kernel
  rw [e1] at pa
  have qa := parse_ac [] (by simp)
  have e2 : parseM [] = (msg0, 200) := by
    have hr : readM [] = (msg0, (40, [])) := by kernel_rfl
    rw [parseM, hr, if_neg (by simp [endR])]
  rw [e2] at qa
  have h1 := mayMsg_ac mA (by simp [mA, msg0]) (by simp [mA, msg0, cfg0])
  have h2 := mayMsg_ac msg0 (by simp [msg0]) (by simp [msg0, cfg0])
  have h3 := mayMsg_ac mB (by simp [mB, msg0]) (by simp [mB, msg0, cfg0])
  have h4 := mayMsg_ac mC (by simp [mC, msg0]) (by simp [mC, msg0, cfg0])
  have h5 := mayMsg_ac mD (by simp [mD, msg0]) (by simp [mD, msg0, cfg0])
  rw [show mayM mA = true by decide +kernel] at h1
  rw [show mayM msg0 = false by decide +kernel] at h2
  rw [show mayM mB = false by decide +kernel] at h3
  rw [show mayM mC = false by decide +kernel] at h4
  rw [show mayM mD = true by decide +kernel] at h5
  refine AC.N Try.func30 Try.ntmps30 ?_
  intro X
  simp only [nx, Nat.reduceAdd, Nat.reduceSub, BEq.rfl]
  repeat' (first
    | ((first
    | ((with_reducible apply AP.k_any); first
             | refine AP.S ?_
             | refine AP.E ?_
             | (refine AP.Y ?_; dsimp only) | refine AP.G (fun hg => ?_) (fun hg => ?_)
             | refine AP.T ?_
             | (refine AP.V (fun c hnil => ?_); simp only [nz])
      )
    | ((with_reducible apply AP.k_any); refine AP.C (pa) ?_)
    | ((with_reducible apply AP.k_any); refine AP.C (qa) ?_)
    | ((with_reducible apply AP.k_any); refine AP.C (h1) ?_)
    | ((with_reducible apply AP.k_any); refine AP.C (h2) ?_)
    | ((with_reducible apply AP.k_any); refine AP.C (h3) ?_)
    | ((with_reducible apply AP.k_any); refine AP.C (h4) ?_)
    | ((with_reducible apply AP.k_any); refine AP.C (h5) ?_)
    )
      <;> (try simp only [nx, Nat.reduceAdd, Nat.reduceSub, BEq.rfl]))
    | ((with_reducible apply AP.k_nil); first
        | (refine AP.nil (hQ' _ ?_); clear hQ' Q')
        | refine AP.nil ?_)
    | ((with_reducible apply CP.k_reg); refine cp_regG fun Q' hQ' => ?_)
      | (with_reducible apply CP.k_reg1; refine cp_region ?_)
      | ((with_reducible apply CP.k_cond); first | refine cp_condT rfl ?_ | refine cp_condF rfl ?_ | refine cp_cond rfl (fun hc => ?_) (fun hc => ?_))
      | refine CP.go ?_
      | (simp only [List.append_eq, List.cons_append, List.nil_append]))
  (exact RetQ.A [] (by exact ⟨rfl, rfl⟩))
end Go.Proofs.Ytpdegeknhapgmaa

namespace Go.Proofs.Ytpdegeknhapgmaa
set_option linter.unusedVariables false
set_option linter.unusedSimpArgs false
open Go.RowKit Go.ChangeShapes Go.WideShapes Go.ChangeAt Go.Deep
set_option maxRecDepth 100000

/-! bulk -/
theorem bulk_one {H : Type} (d : DataW H) : 1 ≤ Rows.uptoBulk d := by
  cases d with
  | lit l => cases l <;> simp [Rows.uptoBulk]
  | _ => simp [Rows.uptoBulk]
theorem bulk_part {H : Type} {d : DataW H} {l : List (DataW H)} (h : d ∈ l) : Rows.uptoBulk d ≤ Rows.uptoBulkAll l := by
  induction l with
  | nil => cases h
  | cons x r ih =>
    simp only [Rows.uptoBulkAll]
    cases List.mem_cons.1 h with
    | inl e => subst e; omega
    | inr e => have := ih e; omega
theorem bulk_length {H : Type} (l : List (DataW H)) : l.length ≤ Rows.uptoBulkAll l := by
  induction l with
  | nil => simp [Rows.uptoBulkAll]
  | cons x r ih => have := bulk_one x; simp only [Rows.uptoBulkAll, List.length_cons]; omega

/-- what reads as data of a type is k cells of my data; N: its bulk -/
def OA (P : Program) (t : TypeId) (k : Nat) {α : Type} (ok : Nat → α → Prop) (e : α → List AV) : Prop :=
  P.cellsOf t = k ∧ (∀ m n d, m ≤ n → ok m d → ok n d) ∧ ∀ {H : Type} {enc : TypeId × Value → H} {w : World} {base : Nat} {fuel : Nat} {cs : List Value} {x : DataW H × List MemPlace},
    DataW.trod enc P w base (fun _ => true) true fuel t cs = some x → ∃ d : α, ok (Rows.uptoBulk x.1) d ∧ (∀ φ κ, RC w φ κ (fun b => b < w.heap.size) (e d) cs Ct.z) ∧ (∀ u ∈ cs, u.oneCell' = true) ∧ (∀ a ∈ e d, a.leaf = true) ∧ cs.length = k
section
variable {P : Program} {t e : TypeId} {α β : Type} {ok : Nat → α → Prop} {k : Nat} {en : α → List AV}
theorem OA.map (h : OA P t k ok en) (f : α → β) {ok' : Nat → β → Prop} {en' : β → List AV} (hm : ∀ m n d, m ≤ n → ok' m d → ok' n d) (h1 : ∀ n a, ok n a → ok' n (f a)) (h2 : ∀ a, en' (f a) = en a) : OA P t k ok' en' :=
  ⟨h.1, hm, fun hx => by
    obtain ⟨d, a, b, c⟩ := h.2.2 hx
    exact ⟨f d, h1 _ _ a, by rw [h2]; exact b, by rw [h2]; exact c⟩⟩
theorem OA.wmap (h : OA P t k ok en) (f : α → β) {ok' : Nat → β → Prop} {en' : β → List AV} (hm : ∀ m n d, m ≤ n → ok' m d → ok' n d) (h1 : ∀ n a, ok n a → ok' n (f a)) (h2 : ∀ n a, ok n a → en' (f a) = en a) : OA P t k ok' en' :=
  ⟨h.1, hm, fun hx => by
    obtain ⟨d, a, b, c⟩ := h.2.2 hx
    exact ⟨f d, h1 _ _ a, by rw [h2 _ _ a]; exact b, by rw [h2 _ _ a]; exact c⟩⟩
theorem RC.one_ {w : World} {φ : Fi} {κ : Ka} {R : Nat → Prop} {a : AV} {v : Value} (h : RV w φ κ R a v Ct.z) : RC w φ κ R [a] [v] Ct.z := .cons (S := Ct.z) (T := Ct.z) h .nil fun _ => rfl
theorem oa_int {κ : IntKind} (ht : P.underlying t = some (.int κ)) (hc : P.cellsOf t = 1) : OA P t 1 (fun _ (n : Int) => (Lit.int κ n).wf = true) (fun n => [.sc (.int κ n)]) :=
  ⟨hc, fun _ _ _ _ h => h, fun h => by
    obtain ⟨n, rfl, _, hw⟩ := DataW.trod_int ht h
    exact ⟨n, hw, fun _ _ => RC.one_ (.sc rfl), fun u hu => by simp at hu; subst hu; rfl, fun a ha => by simp at ha; subst ha; rfl, rfl⟩⟩
theorem oa_bool (ht : P.underlying t = some .bool) (hc : P.cellsOf t = 1) : OA P t 1 (fun _ (_ : Bool) => True) (fun n => [.sc (.bool n)]) :=
  ⟨hc, fun _ _ _ _ h => h, fun h => by
    obtain ⟨n, rfl, _⟩ := DataW.trod_bool ht h
    exact ⟨n, trivial, fun _ _ => RC.one_ (.sc rfl), fun u hu => by simp at hu; subst hu; rfl, fun a ha => by simp at ha; subst ha; rfl, rfl⟩⟩
theorem oa_string (ht : P.underlying t = some .string) (hc : P.cellsOf t = 1) : OA P t 1 (fun m (n : ByteArray) => n.size < m) (fun n => [.sc (.string n)]) :=
  ⟨hc, fun _ _ _ h k => Nat.lt_of_lt_of_le k h, fun h => by
    obtain ⟨n, rfl, rfl, hw⟩ := DataW.trod_string ht h
    exact ⟨n, by (simp [Rows.uptoBulk]), fun _ _ => RC.one_ (.sc rfl), fun u hu => by simp at hu; subst hu; rfl, fun a ha => by simp at ha; subst ha; rfl, rfl⟩⟩
theorem RE.of_rows {w : World} {φ : Fi} {κ : Ka} {R : Nat → Prop} {k : Nat} {en : α → List AV} {l : List α} (css : Nat → List Value) (h : ∀ i x, l[i]? = some x → RC w φ κ R (en x) (css i) Ct.z ∧ (∀ u ∈ css i, u.oneCell' = true) ∧ (∀ a ∈ en x, a.leaf = true) ∧ (css i).length = k) :
    RE w φ κ R k (l.map en) ((List.range l.length).flatMap css) Ct.z := by
  induction l generalizing css with
  | nil => exact .nil
  | cons x l ih =>
    have h0 := h 0 x rfl
    have h1 := ih (fun i => css (i + 1)) fun i y hy => h (i + 1) y (by simpa using hy)
    rw [List.length_cons, List.range_succ_eq_map, List.flatMap_cons, List.flatMap_map]
    exact .cons (S := Ct.z) (T := Ct.z) h0.1 h0.2.2.2 ⟨h0.2.1, h0.2.2.1⟩ h1 fun _ => rfl
theorem flat_at {css : Nat → List Value} {k n : Nat} (h : ∀ i, i < n → (css i).length = k) : ∀ {j : Nat} {u : Value}, ((List.range n).flatMap css)[j]? = some u → ∃ i r, i < n ∧ j = i * k + r ∧ (css i)[r]? = some u := by
  induction n generalizing css with
  | zero => intro j u hj; simp at hj
  | succ n ih =>
    intro j u hj
    rw [List.range_succ_eq_map, List.flatMap_cons, List.flatMap_map] at hj
    have h0 := h 0 (by omega)
    by_cases hjk : j < k
    · rw [List.getElem?_append_left (by omega)] at hj
      exact ⟨0, j, by omega, by omega, hj⟩
    · rw [List.getElem?_append_right (by omega)] at hj
      obtain ⟨i, r, hi, hr, hu⟩ := ih (css := fun i => css (i + 1)) (fun i hi => h (i + 1) (by omega)) hj
      refine ⟨i + 1, r, by omega, ?_, hu⟩
      rw [Nat.add_mul]; omega
theorem spot_none {w : World} {a : Addr} {u : Value} (h : w.cell? (a.add 0) = some u) : a.spot = none := by
  obtain ⟨ab, ao, asp⟩ := a
  cases hsp : asp with
  | none => rfl
  | some s =>
    rw [hsp] at h
    simp [Addr.add, World.cell?] at h
    split at h <;> simp at h
theorem oa_slice (hk : 0 < k) (ht : P.underlying t = some (.slice e)) (hc : P.cellsOf t = 1) (hE : OA P e k ok en) : OA P t 1 (fun N (l : List α) => (∀ x ∈ l, ok N x) ∧ l.length < N) (fun l => [.sl none k (l.map en)]) := by
  refine ⟨hc, fun m n d h k => ⟨fun x hx => hE.2.1 _ _ _ h (k.1 x hx), Nat.lt_of_lt_of_le k.2 h⟩, ?_⟩
  intro H enc w base fuel cs x h
  rcases open_slice ht h with ⟨rfl, rfl⟩ | ⟨a, len, cap, m, n, D, Pl, rfl, hb, hl, hm, hmm, hx, hi⟩
  · exact ⟨[], ⟨fun x hx => by simp at hx, by simp [Rows.uptoBulk]⟩, fun _ _ => RC.one_ .ni, fun u hu => by simp at hu; subst hu; rfl, fun a ha => by simp at ha; subst ha; rfl, rfl⟩
  · obtain rfl : m = cap := by simpa using hmm
    clear hmm
    have hbulk : ∀ i, i < len → Rows.uptoBulk (D i) ≤ Rows.uptoBulk x.1 := by
      intro i hi
      rw [hx]
      have := bulk_part (d := D i) (l := (List.range len).map D) (List.mem_map.2 ⟨i, List.mem_range.2 hi, rfl⟩)
      simp only [Rows.uptoBulk]
      omega
    have hlenb : len < Rows.uptoBulk x.1 := by
      rw [hx]
      have := bulk_length ((List.range len).map D)
      simp only [Rows.uptoBulk]
      simp only [List.length_map, List.length_range] at this
      omega
    have hall : ∀ i, i < len → ∃ (d : α) (cs' : List Value), (ok (Rows.uptoBulk x.1) d ∧ (∀ φ κ, RC w φ κ (fun b => b < w.heap.size) (en d) cs' Ct.z) ∧ (∀ u ∈ cs', u.oneCell' = true) ∧ (∀ a ∈ en d, a.leaf = true) ∧ cs'.length = k) ∧ ∀ j u, cs'[j]? = some u → w.cell? ((a.add (i * k)).add j) = some u := by
      intro i hil
      obtain ⟨cs', hcs, htr⟩ := hi i (by omega)
      obtain ⟨d, hd0, hd⟩ := hE.2.2 htr
      rw [hE.1] at hcs
      obtain ⟨_, hlen, hat⟩ := World.cells?_some hcs
      exact ⟨d, cs', ⟨hE.2.1 _ _ _ (hbulk i hil) hd0, hd⟩, fun j u hu => (hat j (by have := (List.getElem?_eq_some_iff.1 hu).1; omega)).trans hu⟩
    have hsp0 : 0 < m → a.spot = none := by
      intro h0
      obtain ⟨cs', hcs, _⟩ := hi 0 h0
      rw [hE.1] at hcs
      obtain ⟨_, hlen, hat⟩ := World.cells?_some hcs
      have hz := hat 0 (by omega)
      rw [List.getElem?_eq_getElem (by omega)] at hz
      have e0 : a.add (0 * k) = a := by simp [Addr.add]
      rw [e0] at hz
      exact spot_none hz
    have hex : ∃ (l : List α) (css : Nat → List Value), l.length = len ∧ ∀ i y, l[i]? = some y → (ok (Rows.uptoBulk x.1) y ∧ (∀ φ κ, RC w φ κ (fun b => b < w.heap.size) (en y) (css i) Ct.z) ∧ (∀ u ∈ css i, u.oneCell' = true) ∧ (∀ a ∈ en y, a.leaf = true) ∧ (css i).length = k) ∧ ∀ j u, (css i)[j]? = some u → w.cell? ((a.add (i * k)).add j) = some u := by
      clear hi hbulk hlenb h hx
      revert hall
      clear hl
      induction len with
      | zero => exact fun _ => ⟨[], fun _ => [], rfl, fun i x h => by simp at h⟩
      | succ q ih =>
        intro hall
        obtain ⟨l, css, hl, hq⟩ := ih (fun i hi => hall i (by omega))
        obtain ⟨d, cs', hd, hcs⟩ := hall q (by omega)
        refine ⟨l ++ [d], fun i => if i = q then cs' else css i, by simp [hl], fun i x hx => ?_⟩
        by_cases hik : i < q
        · rw [List.getElem?_append_left (by omega)] at hx
          simp only [show i ≠ q by omega, if_false]
          exact hq i x hx
        · have hik' : i = q := by have := (List.getElem?_eq_some_iff.1 hx).1; simp at this; omega
          subst hik'
          rw [List.getElem?_append_right (by omega), hl] at hx
          simp at hx
          subst hx
          simp only [if_true]
          exact ⟨hd, hcs⟩
    obtain ⟨l, css, hll, hq⟩ := hex
    refine ⟨l, ⟨fun y hy => ?_, by omega⟩, fun φ κ => ?_, fun u hu => by simp at hu; subst hu; rfl, fun a ha => by simp at ha; subst ha; rfl, rfl⟩
    · obtain ⟨i, hi, rfl⟩ := List.mem_iff_getElem.1 hy
      exact (hq i _ (List.getElem?_eq_getElem hi)).1.1
    · refine RC.one_ ?_
      subst hll
      by_cases h0 : m = 0
      · subst h0
        obtain rfl : l = [] := List.eq_nil_of_length_eq_zero (by omega)
        exact .ne
      · obtain ⟨ab, ao, asp⟩ := a
        have hspn := hsp0 (by omega)
        simp only at hspn
        subst hspn
        have hflat : ∀ j u, ((List.range l.length).flatMap css)[j]? = some u → w.cell? ⟨ab, ao + j, none⟩ = some u := by
          intro j u hj
          obtain ⟨i, r, hi, rfl, hu⟩ := flat_at (k := k) (fun i hi => (hq i _ (List.getElem?_eq_getElem hi)).1.2.2.2.2) hj
          have := (hq i _ (List.getElem?_eq_getElem hi)).2 r u hu
          have e1 : (Addr.add (Addr.add ⟨ab, ao, none⟩ (i * k)) r) = ⟨ab, ao + (i * k + r), none⟩ := by
            unfold Addr.add
            split <;> split <;> simp_all [Nat.add_assoc]
          rw [e1] at this
          exact this
        have hE' : RE w φ κ (fun b => b < w.heap.size) k (l.map en) ((List.range l.length).flatMap css) Ct.z := RE.of_rows css fun i x hx => ⟨(hq i x hx).1.2.1 φ κ, (hq i x hx).1.2.2⟩
        have := RV.ro (c := m) (b := ab) (o := ao) hE' (by simp; omega) hm (fun hne => by
          have hl0 : 0 < l.length := by cases l with
            | nil => exact absurd rfl hne
            | cons _ _ => simp
          have hc0 := (hq 0 _ (List.getElem?_eq_getElem hl0)).1.2.2.2.2
          have hz := (hq 0 _ (List.getElem?_eq_getElem hl0)).2 0 _ (List.getElem?_eq_getElem (by omega))
          simp only [Addr.add, Nat.zero_mul, if_true, World.cell?] at hz
          cases hh : w.heap[ab]? with
          | none => simp [hh] at hz
          | some o => exact (Array.getElem?_eq_some_iff.1 hh).1) hflat
        simpa using this
/-- fields from an offset on -/
def OFs (P : Program) (fs : List Field) (off k : Nat) {α : Type} (ok : Nat → α → Prop) (e : α → List AV) : Prop :=
  (∀ m n d, m ≤ n → ok m d → ok n d) ∧ ∀ {H : Type} {enc : TypeId × Value → H} {w : World} {base : Nat} {cs : List Value} {N : Nat},
    (∀ f ∈ fs, ∃ n y, DataW.trod enc P w base (fun _ => true) true n f.type ((cs.drop f.offset).take (P.cellsOf f.type)) = some y ∧ Rows.uptoBulk y.1 ≤ N) → off + k ≤ cs.length →
    ∃ d : α, ok N d ∧ (∀ φ κ, RC w φ κ (fun b => b < w.heap.size) (e d) ((cs.drop off).take k) Ct.z) ∧ (∀ u ∈ (cs.drop off).take k, u.oneCell' = true) ∧ (∀ a ∈ e d, a.leaf = true)
theorem of_nil {off : Nat} : OFs P [] off 0 (fun _ (_ : Unit) => True) (fun _ => []) :=
  ⟨fun _ _ _ _ _ => trivial, fun {H enc w base cs N} _ _ => ⟨(), trivial, fun φ κ => by simp; exact .nil, fun u hu => by simp at hu, fun a ha => by cases ha⟩⟩
theorem of_cons {f : Field} {fs : List Field} {off k2 : Nat} {ok2 : Nat → β → Prop} {en2 : β → List AV} (hoff : f.offset = off) (h1 : OA P f.type k ok en) (h2 : OFs P fs (off + k) k2 ok2 en2) :
    OFs P (f :: fs) off (k + k2) (fun N (d : α × β) => ok N d.1 ∧ ok2 N d.2) (fun d => en d.1 ++ en2 d.2) :=
  ⟨fun m n d h k => ⟨h1.2.1 _ _ _ h k.1, h2.1 _ _ _ h k.2⟩, fun {H enc w base cs N} hf hl => by
    subst hoff
    obtain ⟨n, y, hy, hyb⟩ := hf f (by simp)
    rw [h1.1] at hy
    obtain ⟨a, a1, a2, a3, a4, a5⟩ := h1.2.2 hy
    obtain ⟨b, b1, b2, b3, b4⟩ := h2.2 (cs := cs) (N := N) (fun g hg => hf g (by simp [hg])) (by omega)
    have e0 : (cs.drop f.offset).take (k + k2) = (cs.drop f.offset).take k ++ (cs.drop (f.offset + k)).take k2 := by
      rw [List.take_add, List.drop_drop]
    refine ⟨(a, b), ⟨h1.2.1 _ _ _ hyb a1, b1⟩, fun φ κ => ?_, fun u hu => ?_, fun x hx => ?_⟩
    · rw [e0]; exact (a2 φ κ).append (b2 φ κ) fun _ => rfl
    · rw [e0] at hu; exact (List.mem_append.1 hu).elim (a3 u) (b3 u)
    · exact (List.mem_append.1 hx).elim (a4 x) (b4 x)⟩
theorem oa_struct {fs : Array Field} (ht : P.underlying t = some (.struct fs)) (hc : P.cellsOf t = k) (h : OFs P fs.toList 0 k ok en) : OA P t k ok en :=
  ⟨hc, h.1, fun {H enc w base fuel cs x} hx => by
    obtain ⟨xs, n, _, hxx, hl, hn, hg⟩ := DataW.trod_struct ht hx
    obtain ⟨d, d1, d2, d3, d4⟩ := h.2 (cs := cs) (N := Rows.uptoBulk x.1) (fun f hf => by
      obtain ⟨i, hi, rfl⟩ := List.mem_iff_getElem.1 hf
      have hi' : i < fs.size := by simpa using hi
      have := hg i (fs.toList[i]) (by simp [hi'])
      rw [List.getElem?_eq_getElem (by omega)] at this
      refine ⟨n, _, this, ?_⟩
      have hb := bulk_part (d := (xs[i]'(by omega)).1) (l := xs.map (·.1)) (List.mem_map.2 ⟨_, List.getElem_mem _, rfl⟩)
      rw [hxx]
      simp only [Rows.uptoBulk]
      omega) (by omega)
    rw [hc] at hl
    have e0 : (cs.drop 0).take k = cs := by rw [List.drop_zero]; exact List.take_of_length_le (by omega)
    rw [e0] at d2 d3
    exact ⟨d, d1, d2, d3, d4, hl⟩⟩

/-! arguments -/
variable {H : Type} {enc : TypeId × Value → H} {w : World} {base b0 : Nat} {r : Reach} {v : Value} {d : DataW H} {p : List MemPlace}
theorem arg_ag {fs : Array Field} (ht : P.underlying t = some (.struct fs)) (hE : OA P t k ok en) (hv : Value.okWide P w r b0 t v) (h : DataW.Trod enc P w base (fun _ => true) true t v d p) :
    ∃ x, ok (Rows.uptoBulk d) x ∧ ∀ φ κ, RV w φ κ (fun b => b < w.heap.size) (.ag (en x)) v Ct.z := by
  obtain ⟨cs, rfl, _⟩ := okWide_struct ht hv
  obtain ⟨fuel, hf⟩ := h
  obtain ⟨x, x1, x2, x3, _⟩ := hE.2.2 hf
  simp only [Value.cells] at x2 x3
  refine ⟨x, x1, fun φ κ => ?_⟩
  have := RV.ag (x2 φ κ) x3
  simpa using this
theorem arg_1 {f : α → AV} (hE : OA P t 1 ok (fun x => [f x])) (hv : v.cells.toList = [v]) (h : DataW.Trod enc P w base (fun _ => true) true t v d p) :
    ∃ x, ok (Rows.uptoBulk d) x ∧ ∀ φ κ, RV w φ κ (fun b => b < w.heap.size) (f x) v Ct.z := by
  obtain ⟨fuel, hf⟩ := h
  obtain ⟨x, x1, x2, x3, _⟩ := hE.2.2 hf
  refine ⟨x, x1, fun φ κ => ?_⟩
  have h1 := x2 φ κ
  rw [hv] at h1
  cases h1 with
  | cons a b c => obtain ⟨rfl, rfl⟩ := Ct.split c; exact a
theorem cells_slice (ht : P.underlying t = some (.slice e)) (hv : Value.okWide P w r b0 t v) : v.cells.toList = [v] := by
  unfold Value.okWide at hv
  rw [ht] at hv
  cases v with
  | agg cs => simp only [Cell.okWide, ht] at hv; simp [Cell.ok, ht] at hv
  | tuple cs => simp only [Cell.okWide, ht] at hv; simp [Cell.ok, ht] at hv
  | _ => rfl
theorem cells_int {κ : IntKind} (ht : P.underlying t = some (.int κ)) (hv : Value.okWide P w r b0 t v) : v.cells.toList = [v] := by
  unfold Value.okWide at hv
  rw [ht] at hv
  cases v with
  | agg cs => simp only [Cell.okWide, ht] at hv; simp [Cell.ok, ht] at hv
  | tuple cs => simp only [Cell.okWide, ht] at hv; simp [Cell.ok, ht] at hv
  | _ => rfl
theorem cells_bool (ht : P.underlying t = some .bool) (hv : Value.okWide P w r b0 t v) : v.cells.toList = [v] := by
  unfold Value.okWide at hv
  rw [ht] at hv
  cases v with
  | agg cs => simp only [Cell.okWide, ht] at hv; simp [Cell.ok, ht] at hv
  | tuple cs => simp only [Cell.okWide, ht] at hv; simp [Cell.ok, ht] at hv
  | _ => rfl
theorem cells_string (ht : P.underlying t = some .string) (hv : Value.okWide P w r b0 t v) : v.cells.toList = [v] := by
  unfold Value.okWide at hv
  rw [ht] at hv
  cases v with
  | agg cs => simp only [Cell.okWide, ht] at hv; simp [Cell.ok, ht] at hv
  | tuple cs => simp only [Cell.okWide, ht] at hv; simp [Cell.ok, ht] at hv
  | _ => rfl

/-! what was there reads as it did -/
theorem trodAll_below (hl : laidOutB P = true) {W W' : World} (hb : Below W.heap.size W W') :
    ∀ (ts : List TypeId) (vs : List Value) (ds : List (DataW H)) (ps : List MemPlace), (∀ t ∈ ts, P.readableRec t = true ∧ t < P.types.size) → (∀ x ∈ ps, x.block < W.heap.size) →
      DataW.TrodAll enc P W 0 (fun _ => true) true ts vs ds ps → DataW.TrodAll enc P W' 0 (fun b => decide (b < W.heap.size)) true ts vs ds ps
  | [], [], [], ps, _, _, h => h
  | t :: ts, v :: vs, d :: ds, ps, hr, hlt, h => by
    obtain ⟨p, q, hd, hs, rfl⟩ := h
    have hrt := hr t (by simp)
    exact ⟨p, q, Below.trod hl hrt.1 hrt.2 hd hb fun x hx => hlt x (by simp [hx]), trodAll_below hl hb ts vs ds q (fun t ht => hr t (by simp [ht])) (fun x hx => hlt x (by simp [hx])) hs, rfl⟩
  | [], _ :: _, _, _, _, _, h => by simp [DataW.TrodAll] at h
  | [], [], _ :: _, _, _, _, h => by simp [DataW.TrodAll] at h
  | _ :: _, [], _, _, _, _, h => by simp [DataW.TrodAll] at h
  | _ :: _, _ :: _, [], _, _, _, h => by simp [DataW.TrodAll] at h
/-- THE LAST STEP: the law returns true and leaves alone what was there -/
theorem law_post {f : Func} {s : ChangeSpec} {apart fresh handsOn : Bool} {W W' : World} {args : Array Value} {ds gs : List (DataW H)} {before : List MemPlace} {tb : TypeId}
    (hl : laidOutB P = true) (hv : s.vars = []) (hrt : f.resultTypes = #[tb]) (hub : P.underlying tb = some .bool) (hread : (f.params.toList.all fun t => P.readableRec t && decide (t < P.types.size)) = true)
    (hW : DataW.Whole enc P f.params.toList s.vars apart W args.toList ds gs before) (hfn : ∀ gs', gs' = [] → s.fn H (ds ++ gs') = { results := [.lit (.bool true)], args := ds }) (hb : Below W.heap.size W W') :
    s.post enc P f apart fresh handsOn false W args (.bool true) W' := by
  have hread' : ∀ t ∈ f.params.toList, P.readableRec t = true ∧ t < P.types.size := fun t ht => by
    have := List.all_eq_true.1 hread t ht
    simpa using this
  have hW' := hW
  obtain ⟨p, q, hA, hV, rfl, hfz, hnd⟩ := hW
  rw [hv] at hV
  obtain ⟨rfl, rfl⟩ := trodVars_none hV
  have hlt : ∀ x ∈ p, x.block < W.heap.size := fun x hx => hW'.lt x (by simpa using hx)
  refine ⟨ds, [], p ++ [], [], p, [], hW', ?_, ?_, ?_, ?_, fun h => by cases h⟩
  · rw [hfn [] rfl, hrt]
    exact trodAll_mk1 (shut_bool hub true)
  · rw [hfn [] rfl]
    exact trodAll_below hl hb _ _ _ _ hread' hlt hA
  · rw [hv, hfn [] rfl]
    rfl
  · refine World.keptBut_mono (fun x hx => ⟨hx, .inr (.inl (by simpa using hx))⟩) (hb.frame (· ∈ p ++ []))
/-- a contract that tells true, in the world that the law is called in -/
theorem ac_law {fn : Nat} {args : List AV} {vs : List Value} {W : World} (h : AC P fn args [] (fun v bs' => v = .sc (.bool true) ∧ bs' = [])) (ha : ∀ φ κ, RC W φ κ (fun b => b < W.heap.size) args vs Ct.z) :
    Calls P fn vs.toArray W fun e W' => e = .returned (.bool true) ∧ Below W.heap.size W W' := by
  refine (h.2 W (fun _ _ => none) (fun _ _ => none) _ vs [] Ct.z Ct.z (ha _ _) .nil (fun i g hi => by simp at hi) (fun _ _ _ => rfl) (fun _ _ => rfl) (fun x => by simp [Ct.z]) (fun x hx => by simp [Ct.z] at hx) (fun x hx => ⟨hx, rfl⟩)).mono ?_
  rintro e W' ⟨v, r, bs', gs', Sr, Sb', φ', F, rfl, ⟨rfl, rfl⟩, hr, _, _, _, _, _, _, hf⟩
  cases hr with
  | sc => exact ⟨rfl, hf.os, hf.tape, hf.output, hf.size, fun b hb => hf.block b hb rfl⟩
theorem bulk_of {l : List (DataW H)} (hk : Rows.uptoSmall H l = true) : Rows.uptoBulkAll l ≤ 1048576 := of_decide_eq_true hk
end
end Go.Proofs.Ytpdegeknhapgmaa

namespace Go.Proofs.Ytpdegeknhapgmaa
set_option linter.unusedVariables false
set_option linter.unusedSimpArgs false
open Go.RowKit Go.ChangeShapes Go.WideShapes Go.ChangeAt Go.Deep
set_option maxRecDepth 100000
theorem laidOut : laidOutB Try.prog = true := by kernel_rfl
theorem own_knob : ownKnob Try.prog.godebug = none := by kernel_rfl
def I64 (x : Int) : Prop := -9223372036854775808 ≤ x ∧ x ≤ 9223372036854775807
theorem i64_of {x : Int} (h : (Lit.int .i64 x).wf = true) : I64 x := by simpa [Lit.wf, IntKind.min, IntKind.max, IntKind.signed, IntKind.bits, I64] using h
theorem u8_of {x : Int} (h : (Lit.int .u8 x).wf = true) : 0 ≤ x ∧ x ≤ 255 := by simpa [Lit.wf, IntKind.min, IntKind.max, IntKind.signed, IntKind.bits] using h
theorem oi : OA Try.prog 3 1 (fun _ x => I64 x) (fun x => [I x]) := (oa_int Try.underlying3 (by kernel_rfl)).map id (fun _ _ _ _ h => h) (fun _ _ h => i64_of h) fun _ => rfl
theorem obl : OA Try.prog 4 1 (fun _ (_ : Bool) => True) (fun x => [B x]) := oa_bool Try.underlying4 (by kernel_rfl)
theorem ou : OA Try.prog 5 1 (fun _ (_ : UInt8) => True) eB := (oa_int Try.underlying5 (by kernel_rfl)).wmap (fun x : Int => UInt8.ofNat x.toNat) (fun _ _ _ _ h => h) (fun _ _ _ => trivial) fun n x hx => by
  have h := u8_of hx
  have e : ((UInt8.ofNat x.toNat).toNat : Int) = x := by rw [UInt8.toNat_ofNat']; omega
  simp only [eB, U, e]
theorem obs : OA Try.prog 22 1 (fun N (l : List UInt8) => (∀ x ∈ l, True) ∧ l.length < N) (fun l => [bs none l]) := oa_slice (by decide) Try.underlying22 (by kernel_rfl) ou
end Go.Proofs.Ytpdegeknhapgmaa

namespace Go.Proofs.Ytpdegeknhapgmaa
set_option linter.unusedVariables false
set_option linter.unusedSimpArgs false
abbrev Rd := Int × List UInt8
/-- a reader f reads what g writes, of what is ok; and what it reads is so written -/
structure Cod {α : Type} (f : Rd → α × Rd) (g : α → List UInt8) (ok : α → Prop) : Prop where
  fwd : ∀ a rest, ok a → f (0, g a ++ rest) = (a, (0, rest))
  bwd : ∀ st, (f st).2.1 = 0 → st.2 = g (f st).1 ++ (f st).2.2 ∧ ok (f st).1
  stk : ∀ st, st.1 ≠ 0 → (f st).2.1 ≠ 0
theorem Cod.zero {α : Type} {f : Rd → α × Rd} {g : α → List UInt8} {ok : α → Prop} (h : Cod f g ok) {st : Rd} (h0 : (f st).2.1 = 0) : st.1 = 0 := by
  by_cases h1 : st.1 = 0
  · exact h1
  · exact absurd h0 (h.stk st h1)
theorem foldl_be (l : List UInt8) : ∀ x : Nat, l.foldl (fun x c => 256 * x + c.toNat) x = x * 256 ^ l.length + beN l := by
  induction l with
  | nil => intro x; simp [beN]
  | cons c l ih =>
    intro x
    have h0 := ih (256 * 0 + c.toNat)
    rw [List.foldl_cons, ih]
    unfold beN at *
    rw [List.foldl_cons, h0, List.length_cons, Nat.pow_succ]
    rw [Nat.add_mul, Nat.mul_zero, Nat.zero_add]
    have : 256 * x * 256 ^ l.length = x * (256 ^ l.length * 256) := by rw [Nat.mul_comm 256 x, Nat.mul_assoc, Nat.mul_comm 256]
    omega
theorem beN_cons (y : UInt8) (b : List UInt8) : beN (y :: b) = y.toNat * 256 ^ b.length + beN b := by
  have := foldl_be b y.toNat
  simp only [beN, List.foldl_cons] at *
  rw [Nat.mul_zero, Nat.zero_add]; exact this
theorem putS_mod (c x m : Nat) : ∀ n, n ≤ m → putS (c * 256 ^ m + x) n = putS x n
  | 0, _ => rfl
  | n + 1, h => by
    rw [putS, putS, putS_mod c x m n (by omega)]
    congr 2
    have hm : c * 256 ^ m = 256 ^ n * (256 * (c * 256 ^ (m - n - 1))) := by
      have h1 : 256 ^ m = 256 ^ n * (256 * 256 ^ (m - n - 1)) := by rw [← Nat.pow_succ', ← Nat.pow_add]; congr 1; omega
      rw [h1, Nat.mul_left_comm, Nat.mul_left_comm c 256]
    rw [hm, Nat.mul_add_div (Nat.pow_pos (by omega)), Nat.mul_add_mod]
theorem putS_beN : ∀ {n : Nat} {b : List UInt8}, b.length = n → putS (beN b) n = b
  | 0, b, h => by rw [List.length_eq_zero_iff.1 h]; rfl
  | n + 1, [], h => by simp at h
  | n + 1, y :: b, h => by
    have hb : b.length = n := by simpa using h
    have hlt := beN_lt b
    rw [hb] at hlt
    rw [beN_cons, hb, putS, putS_mod _ _ _ n (Nat.le_refl _), putS_beN hb]
    congr 1
    rw [Nat.mul_comm, Nat.mul_add_div (Nat.pow_pos (by omega)), Nat.div_eq_of_lt hlt, Nat.add_zero, Nat.mod_eq_of_lt y.toNat_lt]
    simp
theorem beN_putS (x : Nat) : ∀ n, beN (putS x n) = x % 256 ^ n
  | 0 => by simp [putS, beN, Nat.mod_one]
  | n + 1 => by
    rw [putS, beN_cons, putS_length, beN_putS x n]
    have : (UInt8.ofNat (x / 256 ^ n % 256)).toNat = x / 256 ^ n % 256 := by simp
    rw [this, Nat.pow_succ, Nat.mod_mul, Nat.mul_comm, Nat.add_comm]
theorem toI_u (n : Int) (h : I64 n) : toI (IntKind.u64.wrap n).toNat = n := by
  unfold I64 at h
  simp [toI, IntKind.wrap, IntKind.bits, IntKind.signed]; omega
theorem toI_in (x : Nat) : I64 (toI x) := by
  simp [toI, I64, IntKind.wrap, IntKind.bits, IntKind.signed]; omega
theorem intS_toI (x : Nat) (h : x < 2 ^ 64) : intS (toI x) = putS x 8 := by
  have : (IntKind.u64.wrap (toI x)).toNat = x := by simp [toI, IntKind.wrap, IntKind.bits, IntKind.signed]; omega
  rw [intS, this]
theorem beN_intS (n : Int) : beN (intS n) = (IntKind.u64.wrap n).toNat := by
  rw [intS, beN_putS, Nat.mod_eq_of_lt]
  have := wrap_u64_lt n
  simpa using this
/-- readers of so many bytes -/
theorem takeS_zero {α : Type} {z : α} {f : List UInt8 → α × Bool} {n : Nat} {st : Rd} (h : (takeS z f n st).2.1 = 0) :
    st.1 = 0 ∧ n ≤ st.2.length ∧ (f (st.2.take n)).2 = true ∧ takeS z f n st = ((f (st.2.take n)).1, (0, st.2.drop n)) := by
  unfold takeS at h ⊢
  split at h
  · rename_i h0; exact absurd h h0
  · rename_i h0
    split at h
    · simp at h
    · rename_i h1
      split at h
      · rename_i h2
        simp only [Int.toNat_natCast] at h2
        rw [if_neg h0, if_neg h1]
        simp only [Int.toNat_natCast]
        rw [if_pos h2]
        exact ⟨by simpa using h0, by omega, h2, rfl⟩
      · simp at h
theorem takeS_fwd {α : Type} {z : α} {f : List UInt8 → α × Bool} {n : Nat} {b rest : List UInt8} (hb : b.length = n) (hf : (f b).2 = true) : takeS z f n (0, b ++ rest) = ((f b).1, (0, rest)) := by
  subst hb
  unfold takeS
  rw [if_neg (by simp), if_neg (by simp; omega)]
  simp [hf]
theorem takeS_stk {α : Type} {z : α} {f : List UInt8 → α × Bool} {n : Int} {st : Rd} (h : st.1 ≠ 0) : (takeS z f n st).2.1 ≠ 0 := by
  unfold takeS; rw [if_pos h]; exact h
theorem cod_int : Cod intR intS I64 where
  fwd a rest h := by
    unfold intR
    have := takeS_fwd (z := (0 : Int)) (f := intG) (n := 8) (b := intS a) (rest := rest) (intS_length a) rfl
    rw [show ((8 : Nat) : Int) = 8 from rfl] at this
    rw [this, intG, beN_intS, toI_u a h]
  bwd st h := by
    obtain ⟨h1, h2, h3, h4⟩ := takeS_zero (n := 8) (f := intG) (z := (0 : Int)) (st := st) h
    have e : intR st = (toI (beN (st.2.take 8)), (0, st.2.drop 8)) := h4
    have hl : (st.2.take 8).length = 8 := by simp; omega
    rw [e]
    refine ⟨?_, toI_in _⟩
    have hlt := beN_lt (st.2.take 8)
    rw [hl] at hlt
    dsimp only
    rw [intS_toI _ (by simpa using hlt), putS_beN hl, List.take_append_drop]
  stk st h := takeS_stk h
theorem len1' {b : List UInt8} (h : b.length = 1) : b = [b.headD 0] := by
  match b, h with
  | [x], _ => rfl
theorem cod_byte : Cod byteR (fun x => [x]) (fun _ => True) where
  fwd a rest _ := takeS_fwd (z := (0 : UInt8)) (f := byteG) (n := 1) (b := [a]) (rest := rest) rfl rfl
  bwd st h := by
    obtain ⟨h1, h2, h3, h4⟩ := takeS_zero (n := 1) (f := byteG) (z := (0 : UInt8)) (st := st) h
    have e : byteR st = ((st.2.take 1).headD 0, (0, st.2.drop 1)) := h4
    have hl : (st.2.take 1).length = 1 := by simp; omega
    rw [e]
    refine ⟨?_, trivial⟩
    dsimp only
    rw [← len1' hl, List.take_append_drop]
  stk st h := takeS_stk h
theorem cod_flag : Cod flagR flagS (fun _ => True) where
  fwd a rest _ := by
    cases a with
    | true => exact takeS_fwd (z := false) (f := flagG) (n := 1) (b := [1]) (rest := rest) rfl rfl
    | false => exact takeS_fwd (z := false) (f := flagG) (n := 1) (b := [0]) (rest := rest) rfl rfl
  bwd st h := by
    obtain ⟨h1, h2, h3, h4⟩ := takeS_zero (n := 1) (f := flagG) (z := false) (st := st) h
    have e : flagR st = ((st.2.take 1).headD 0 == 1, (0, st.2.drop 1)) := h4
    have hl : (st.2.take 1).length = 1 := by simp; omega
    rw [e]
    refine ⟨?_, trivial⟩
    dsimp only
    have h5 := len1' hl
    generalize (st.2.take 1).headD 0 = x at h5 h3
    have h6 : st.2 = [x] ++ st.2.drop 1 := by rw [← h5, List.take_append_drop]
    have hx : x = 0 ∨ x = 1 := by
      simp only [flagG, h5, List.headD_cons, decide_eq_true_eq, UInt8.le_iff_toNat_le] at h3
      have h3' : x.toNat ≤ 1 := h3
      rcases (by omega : x.toNat = 0 ∨ x.toNat = 1) with h | h
      · exact .inl (UInt8.toNat_inj.1 (by simpa using h))
      · exact .inr (UInt8.toNat_inj.1 (by simpa using h))
    rcases hx with rfl | rfl
    · exact h6
    · exact h6
  stk st h := takeS_stk h
def bytesF' (b : List UInt8) : List UInt8 := putS b.length 4 ++ b
theorem cod_bytes : Cod bytesR bytesF' (fun b => b.length ≤ 65536) where
  fwd a rest h := by
    have hn : beN (putS a.length 4) = a.length := by rw [beN_putS, Nat.mod_eq_of_lt]; simp; omega
    have e1 : lenR (0, putS a.length 4 ++ (a ++ rest)) = ((a.length : Int), (0, a ++ rest)) := by
      have := takeS_fwd (z := (0 : Int)) (f := lenG) (n := 4) (b := putS a.length 4) (rest := a ++ rest) (putS_length _ _) (by simp [lenG, hn]; exact h)
      rw [show ((4 : Nat) : Int) = 4 from rfl] at this
      rw [lenR, this, lenG, hn]
    unfold bytesR bytesF'
    rw [List.append_assoc, e1]
    exact takeS_fwd (z := ([] : List UInt8)) (f := bytesG) (n := a.length) (b := a) (rest := rest) rfl rfl
  bwd st h := by
    have hz : (lenR st).2.1 = 0 := by
      by_cases h0 : (lenR st).2.1 = 0
      · exact h0
      · exact absurd h (takeS_stk h0)
    obtain ⟨h1, h2, h3, h4⟩ := takeS_zero (n := 4) (f := lenG) (z := (0 : Int)) (st := st) hz
    have e : lenR st = ((beN (st.2.take 4) : Int), (0, st.2.drop 4)) := h4
    have hl : (st.2.take 4).length = 4 := by simp; omega
    have hle : beN (st.2.take 4) ≤ 65536 := by simpa [lenG] using h3
    unfold bytesR at h ⊢
    rw [e] at h ⊢
    obtain ⟨g1, g2, g3, g4⟩ := takeS_zero (n := beN (st.2.take 4)) (f := bytesG) (z := ([] : List UInt8)) (st := (0, st.2.drop 4)) h
    dsimp only at g2 g4 ⊢
    rw [g4]
    dsimp only [bytesG, bytesF']
    have hll : ((st.2.drop 4).take (beN (st.2.take 4))).length = beN (st.2.take 4) := by rw [List.length_take]; omega
    rw [hll, putS_beN hl, List.append_assoc, List.take_append_drop, List.take_append_drop]
    exact ⟨rfl, hle⟩
  stk st h := by
    unfold bytesR
    exact takeS_stk (takeS_stk h)
/-- one behind the other -/
theorem Cod.seq {α β : Type} {f : Rd → α × Rd} {g : α → List UInt8} {ok : α → Prop} {f2 : α → Rd → β × Rd} {g2 : α → β → List UInt8} {ok2 : α → β → Prop} (h : Cod f g ok) (h2 : ∀ a, ok a → Cod (f2 a) (g2 a) (ok2 a)) (hs : ∀ a st, st.1 ≠ 0 → (f2 a st).2.1 ≠ 0) :
    Cod (fun st => (((f st).1, (f2 (f st).1 (f st).2).1), (f2 (f st).1 (f st).2).2)) (fun x => g x.1 ++ g2 x.1 x.2) (fun x => ok x.1 ∧ ok2 x.1 x.2) where
  fwd a rest hk := by
    rw [List.append_assoc, h.fwd _ _ hk.1]
    dsimp only
    rw [(h2 _ hk.1).fwd _ _ hk.2]
  bwd st h0 := by
    dsimp only at h0 ⊢
    have hz : (f st).2.1 = 0 := by
      by_cases h1 : (f st).2.1 = 0
      · exact h1
      · exact absurd h0 (hs _ _ h1)
    obtain ⟨a1, a2⟩ := h.bwd st hz
    obtain ⟨b1, b2⟩ := (h2 _ a2).bwd _ h0
    exact ⟨by rw [a1, List.append_assoc]; congr 1, a2, b2⟩
  stk st h0 := hs _ _ (h.stk st h0)
/-- the same under other names -/
theorem Cod.iso {α β : Type} {f : Rd → α × Rd} {g : α → List UInt8} {ok : α → Prop} (h : Cod f g ok) (t : α → β) (u : β → α) {f' : Rd → β × Rd} {g' : β → List UInt8} {ok' : β → Prop}
    (hf : ∀ st, f' st = (t (f st).1, (f st).2)) (hg : ∀ b, ok' b → g' b = g (u b)) (hok : ∀ b, ok' b → ok (u b) ∧ t (u b) = b) (hok' : ∀ a, ok a → ok' (t a) ∧ u (t a) = a) : Cod f' g' ok' where
  fwd b rest hb := by
    rw [hf, hg b hb, h.fwd _ _ (hok b hb).1]
    dsimp only
    rw [(hok b hb).2]
  bwd st h0 := by
    rw [hf] at h0 ⊢
    obtain ⟨a1, a2⟩ := h.bwd st h0
    have := hok' _ a2
    exact ⟨by dsimp only; rw [hg _ this.1, this.2]; exact a1, this.1⟩
  stk st h0 := by rw [hf]; exact h.stk st h0
end Go.Proofs.Ytpdegeknhapgmaa

namespace Go.Proofs.Ytpdegeknhapgmaa
set_option linter.unusedVariables false
set_option linter.unusedSimpArgs false
def okR (p : Int) (e : Entry) : Prop := e.pos = p ∧ I64 e.stamp ∧ I64 e.client ∧ I64 e.id ∧ e.body.length ≤ 65536
theorem cod_rest (p : Int) : Cod (restR p) restF (okR p) :=
  (((cod_int.seq (fun _ _ => cod_int) fun _ => cod_int.stk).seq (fun _ _ => cod_int) fun _ => cod_int.stk).seq (fun _ _ => cod_bytes) fun _ => cod_bytes.stk).iso
    (fun x => ⟨p, x.1.1.1, x.1.1.2, x.1.2, x.2⟩) (fun e => (((e.stamp, e.client), e.id), e.body)) (fun st => rfl)
    (fun e _ => by simp [restF, numS, bytesF']) (fun e he => ⟨⟨⟨⟨he.2.1, he.2.2.1⟩, he.2.2.2.1⟩, he.2.2.2.2⟩, by cases e; simp [okR] at he ⊢; exact he.1.symm⟩)
    fun x hx => ⟨⟨rfl, hx.1.1.1, hx.1.1.2, hx.1.2, hx.2⟩, rfl⟩
def okEn (e : Entry) : Prop := I64 e.pos ∧ I64 e.stamp ∧ I64 e.client ∧ I64 e.id ∧ e.body.length ≤ 65536
theorem cod_entry : Cod entryR entryF okEn :=
  (cod_int.seq (fun p _ => cod_rest p) fun p => (cod_rest p).stk).iso (fun x => x.2) (fun e => (e.pos, e))
    (fun st => rfl) (fun e _ => rfl) (fun e he => ⟨⟨he.1, rfl, he.2⟩, rfl⟩) fun x hx => ⟨by obtain ⟨h1, h2, h3⟩ := hx; exact ⟨by rw [h2]; exact h1, h3⟩, by obtain ⟨p, e⟩ := x; obtain ⟨h1, h2, h3⟩ := hx; dsimp only at h2 ⊢; rw [h2]⟩
def okMb (m : Member) : Prop := I64 m.node ∧ I64 m.since
theorem cod_mem : Cod memR memF okMb :=
  ((cod_int.seq (fun _ _ => cod_int) fun _ => cod_int.stk).seq (fun _ _ => cod_flag) fun _ => cod_flag.stk).iso
    (fun x => (⟨x.1.1, x.1.2, x.2⟩ : Member)) (fun m => ((m.node, m.since), m.whole)) (fun st => rfl) (fun m _ => by simp [memF, numS]) (fun m hm => ⟨⟨⟨hm.1, hm.2⟩, trivial⟩, rfl⟩) fun x hx => ⟨⟨hx.1.1, hx.1.2⟩, rfl⟩
theorem cod_nil {α : Type} (P : α → Prop) (g : α → List UInt8) : Cod (fun st : Rd => (([] : List α), st)) (fun l => (l.map g).flatten) (fun l => l.length = 0 ∧ ∀ x ∈ l, P x) where
  fwd l rest h := by obtain rfl := List.length_eq_zero_iff.1 h.1; rfl
  bwd st h := ⟨rfl, rfl, by simp⟩
  stk st h := h
theorem cod_mems : ∀ n, Cod (memsR n) (fun l => (l.map memF).flatten) (fun l => l.length = n ∧ ∀ m ∈ l, okMb m)
  | 0 => cod_nil okMb memF
  | n + 1 => (cod_mem.seq (fun _ _ => cod_mems n) fun _ => (cod_mems n).stk).iso (fun x => x.1 :: x.2) (fun l => (l.headD ⟨0, 0, false⟩, l.tail)) (fun st => rfl)
      (fun l hl => by cases l with | nil => simp at hl | cons m l => simp) (fun l hl => by cases l with
        | nil => simp at hl
        | cons m l => exact ⟨⟨hl.2 m (by simp), by simpa using hl.1, fun x hx => hl.2 x (by simp at hx; simp [hx])⟩, rfl⟩) fun x hx => ⟨⟨by simpa using hx.2.1, fun m hm => by
          rcases List.mem_cons.1 hm with rfl | hm
          · exact hx.1
          · exact hx.2.2 m hm⟩, rfl⟩
/-- entries from a position on -/
def okPos (p : Int) : Nat → List Entry → Prop
  | _, [] => True
  | i, e :: l => okR (IntKind.i64.wrap (p + i)) e ∧ okPos p (i + 1) l
theorem count_fwd {m : Int} {n : Nat} {rest : List UInt8} (h1 : (n : Int) ≤ m) (h2 : n ≤ rest.length) (h3 : m ≤ 1000) : countR m (0, intS n ++ rest) = ((n : Int), (0, rest)) := by
  have hi : I64 (n : Int) := by unfold I64; omega
  have hl : leftR (0, intS n ++ rest) - 8 = (rest.length : Int) := by simp [leftR, intS_length]; omega
  have := takeS_fwd (z := (0 : Int)) (f := countG m (leftR (0, intS n ++ rest) - 8)) (n := 8) (b := intS n) (rest := rest) (intS_length _) (by
    simp only [countG, beN_intS, toI_u _ hi, hl]; simp; omega)
  rw [show ((8 : Nat) : Int) = 8 from rfl] at this
  rw [countR, this, countG, beN_intS, toI_u _ hi]
theorem count_bwd {m : Int} {st : Rd} (h : (countR m st).2.1 = 0) : st.2 = intS (countR m st).1 ++ (countR m st).2.2 ∧ 0 ≤ (countR m st).1 ∧ (countR m st).1 ≤ m := by
  unfold countR at h ⊢
  obtain ⟨h1, h2, h3, h4⟩ := takeS_zero (n := 8) (f := countG m (leftR st - 8)) (z := (0 : Int)) (st := st) h
  rw [show ((8 : Nat) : Int) = 8 from rfl] at h4
  rw [h4]
  have hl : (st.2.take 8).length = 8 := by simp; omega
  have hlt := beN_lt (st.2.take 8)
  rw [hl] at hlt
  simp only [countG, Bool.and_eq_true, decide_eq_true_eq] at h3 ⊢
  refine ⟨?_, h3.1.1, h3.1.2⟩
  rw [intS_toI _ (by simpa using hlt), putS_beN hl, List.take_append_drop]
theorem count_stk {m : Int} {st : Rd} (h : st.1 ≠ 0) : (countR m st).2.1 ≠ 0 := takeS_stk h
/-- a number of things, and these -/
def cntR {α : Type} (m : Int) (el : Nat → Rd → List α × Rd) (st : Rd) : List α × Rd := el (countR m st).1.toNat (countR m st).2
theorem cod_cnt {α : Type} {m : Int} {el : Nat → Rd → List α × Rd} {gl : List α → List UInt8} {ok : List α → Prop} (hm : m ≤ 1000) (h : ∀ n, Cod (el n) gl (fun l => l.length = n ∧ ok l)) (hl : ∀ l, ok l → l.length ≤ (gl l).length) :
    Cod (cntR m el) (fun l => intS l.length ++ gl l) (fun l => (l.length : Int) ≤ m ∧ ok l) where
  fwd l rest hk := by
    unfold cntR
    rw [List.append_assoc, count_fwd hk.1 (by rw [List.length_append]; have := hl l hk.2; omega) hm]
    dsimp only
    rw [Int.toNat_natCast]
    exact (h l.length).fwd l rest ⟨rfl, hk.2⟩
  bwd st h0 := by
    unfold cntR at h0 ⊢
    have hz : (countR m st).2.1 = 0 := by
      by_cases h1 : (countR m st).2.1 = 0
      · exact h1
      · exact absurd h0 ((h _).stk _ h1)
    obtain ⟨a1, a2, a3⟩ := count_bwd hz
    obtain ⟨b1, b2, b3⟩ := (h _).bwd _ h0
    have e : (((el (countR m st).1.toNat (countR m st).2).1.length : Nat) : Int) = (countR m st).1 := by rw [b2]; omega
    rw [e]
    exact ⟨by rw [List.append_assoc, ← b1]; exact a1, a3, b3⟩
  stk st h0 := (h _).stk _ (count_stk h0)
theorem flat_len {α : Type} {g : α → List UInt8} (h : ∀ x, 1 ≤ (g x).length) : ∀ l : List α, l.length ≤ ((l.map g).flatten).length
  | [] => by simp
  | x :: l => by have := flat_len h l; have := h x; simp at *; omega
def okCf (c : Config) : Prop := I64 c.epoch ∧ c.members.length ≤ 5 ∧ ∀ m ∈ c.members, okMb m
theorem cod_config : Cod configR configF okCf :=
  (cod_int.seq (fun _ _ => cod_cnt (m := 5) (by omega) cod_mems fun l _ => flat_len (fun m => by rw [memF_length]; omega) l) fun _ => (cod_cnt (m := 5) (by omega) cod_mems fun l _ => flat_len (fun m => by rw [memF_length]; omega) l).stk).iso
    (fun x => ⟨x.1, x.2⟩) (fun c => (c.epoch, c.members)) (fun st => rfl) (fun c _ => by simp [configF, numS]) (fun c hc => ⟨⟨hc.1, by have := hc.2.1; dsimp only; omega, hc.2.2⟩, rfl⟩) fun x hx => ⟨⟨hx.1, by have := hx.2.1; dsimp only at this ⊢; omega, hx.2.2⟩, rfl⟩
end Go.Proofs.Ytpdegeknhapgmaa

namespace Go.Proofs.Ytpdegeknhapgmaa
set_option linter.unusedVariables false
set_option linter.unusedSimpArgs false
def ent00 : Entry := ⟨0, 0, 0, 0, []⟩
theorem cod_ents (p : Int) : ∀ (n i : Nat), Cod (fun st => entsR p i n st) (fun l => (l.map restF).flatten) (fun l => l.length = n ∧ okPos p i l)
  | 0, i => { fwd := fun l rest h => by (obtain rfl := List.length_eq_zero_iff.1 h.1; rfl), bwd := fun st h => ⟨rfl, rfl, trivial⟩, stk := fun st h => h }
  | n + 1, i => ((cod_rest (IntKind.i64.wrap (p + i))).seq (fun _ _ => cod_ents p n (i + 1)) fun _ => (cod_ents p n (i + 1)).stk).iso (fun x => x.1 :: x.2) (fun l => (l.headD ent00, l.tail)) (fun st => rfl)
      (fun l hl => by cases l with | nil => simp at hl | cons m l => simp) (fun l hl => by cases l with
        | nil => simp at hl
        | cons m l => exact ⟨⟨hl.2.1, by simpa using hl.1, hl.2.2⟩, rfl⟩) fun x hx => ⟨⟨by simpa using hx.2.1, hx.1, hx.2.2⟩, rfl⟩
theorem cod_cents (p : Int) : Cod (cntR 4 (entsR p 0)) (fun l => intS l.length ++ (l.map restF).flatten) (fun l => (l.length : Int) ≤ 4 ∧ okPos p 0 l) :=
  cod_cnt (by omega) (fun n => cod_ents p n 0) fun l _ => flat_len (fun e => by rw [restF_length]; omega) l
/-- what a message's fields are, for what is read -/
def okM (m : Msg) : Prop := match m.kind.toNat with
  | 1 => m = { msg0 with kind := m.kind, client := m.client, id := m.id, body := m.body } ∧ I64 m.client ∧ I64 m.id ∧ m.body.length ≤ 65536
  | 2 => m = { msg0 with kind := m.kind, upto := m.upto, frm := m.frm, entries := m.entries } ∧ I64 m.upto ∧ I64 m.frm ∧ m.entries.length ≤ 4 ∧ okPos m.frm 0 m.entries
  | 3 => m = { msg0 with kind := m.kind, have_ := m.have_, done := m.done } ∧ I64 m.have_ ∧ I64 m.done
  | 4 => m = { msg0 with kind := m.kind, cfg := m.cfg } ∧ okCf m.cfg
  | 5 => m = { msg0 with kind := m.kind, since := m.since } ∧ I64 m.since
  | 6 => m = { msg0 with kind := m.kind, client := m.client, id := m.id, body := m.body } ∧ I64 m.client ∧ I64 m.id ∧ m.body.length ≤ 65536
  | _ => False
def okK (k : UInt8) (m : Msg) : Prop := m.kind = k ∧ okM m
theorem cod_ask (k : UInt8) (hk : k.toNat = 1 ∨ k.toNat = 6) : Cod (takeAsk k) fieldF (okK k) :=
  ((cod_int.seq (fun _ _ => cod_int) fun _ => cod_int.stk).seq (fun _ _ => cod_bytes) fun _ => cod_bytes.stk).iso
    (fun x => { msg0 with kind := k, client := x.1.1, id := x.1.2, body := x.2 }) (fun m => ((m.client, m.id), m.body)) (fun st => rfl)
    (fun m hm => by obtain ⟨rfl, _⟩ := hm; rcases hk with hk | hk <;> simp [fieldF, hk, askF, numS, bytesF'])
    (fun m hm => by
      obtain ⟨rfl, hm⟩ := hm
      have : m = { msg0 with kind := m.kind, client := m.client, id := m.id, body := m.body } ∧ I64 m.client ∧ I64 m.id ∧ m.body.length ≤ 65536 := by
        unfold okM at hm
        rcases hk with hk | hk <;> (rw [hk] at hm; exact hm)
      exact ⟨⟨⟨this.2.1, this.2.2.1⟩, this.2.2.2⟩, this.1.symm⟩)
    fun x hx => ⟨⟨rfl, by
      unfold okM
      rcases hk with hk | hk <;> (dsimp only; rw [hk]; exact ⟨rfl, hx.1.1, hx.1.2, hx.2⟩)⟩, rfl⟩
theorem cod_tent (k : UInt8) (hk : k.toNat = 2) : Cod (takeEnt k) fieldF (okK k) :=
  (cod_int.seq (fun _ _ => cod_int.seq (fun p _ => cod_cents p) fun p => (cod_cents p).stk) fun _ st h => (cod_cents _).stk _ (cod_int.stk st h)).iso
    (fun x => { msg0 with kind := k, upto := x.1, frm := x.2.1, entries := x.2.2 }) (fun m => (m.upto, (m.frm, m.entries))) (fun st => rfl)
    (fun m hm => by obtain ⟨rfl, _⟩ := hm; simp [fieldF, hk, entF, numS])
    (fun m hm => by
      obtain ⟨rfl, hm⟩ := hm
      unfold okM at hm
      rw [hk] at hm
      exact ⟨⟨hm.2.1, hm.2.2.1, by have := hm.2.2.2.1; dsimp only; omega, hm.2.2.2.2⟩, hm.1.symm⟩)
    fun x hx => ⟨⟨rfl, by
      unfold okM
      dsimp only; rw [hk]; exact ⟨rfl, hx.1, hx.2.1, by have := hx.2.2.1; omega, hx.2.2.2⟩⟩, rfl⟩
theorem cod_have (k : UInt8) (hk : k.toNat = 3) : Cod (takeHave k) fieldF (okK k) :=
  (cod_int.seq (fun _ _ => cod_int) fun _ => cod_int.stk).iso
    (fun x => { msg0 with kind := k, have_ := x.1, done := x.2 }) (fun m => (m.have_, m.done)) (fun st => rfl)
    (fun m hm => by obtain ⟨rfl, _⟩ := hm; simp [fieldF, hk, numS])
    (fun m hm => by
      obtain ⟨rfl, hm⟩ := hm
      unfold okM at hm
      rw [hk] at hm
      exact ⟨⟨hm.2.1, hm.2.2⟩, hm.1.symm⟩)
    fun x hx => ⟨⟨rfl, by unfold okM; dsimp only; rw [hk]; exact ⟨rfl, hx.1, hx.2⟩⟩, rfl⟩
theorem cod_tcfg (k : UInt8) (hk : k.toNat = 4) : Cod (takeCfg k) fieldF (okK k) :=
  cod_config.iso (fun x => { msg0 with kind := k, cfg := x }) (fun m => m.cfg) (fun st => rfl)
    (fun m hm => by obtain ⟨rfl, _⟩ := hm; simp [fieldF, hk])
    (fun m hm => by
      obtain ⟨rfl, hm⟩ := hm
      unfold okM at hm
      rw [hk] at hm
      exact ⟨hm.2, hm.1.symm⟩)
    fun x hx => ⟨⟨rfl, by unfold okM; dsimp only; rw [hk]; exact ⟨rfl, hx⟩⟩, rfl⟩
theorem cod_whole (k : UInt8) (hk : k.toNat = 5) : Cod (takeWhole k) fieldF (okK k) :=
  cod_int.iso (fun x => { msg0 with kind := k, since := x }) (fun m => m.since) (fun st => rfl)
    (fun m hm => by obtain ⟨rfl, _⟩ := hm; simp [fieldF, hk, numS])
    (fun m hm => by
      obtain ⟨rfl, hm⟩ := hm
      unfold okM at hm
      rw [hk] at hm
      exact ⟨hm.2, hm.1.symm⟩)
    fun x hx => ⟨⟨rfl, by unfold okM; dsimp only; rw [hk]; exact ⟨rfl, hx⟩⟩, rfl⟩
theorem cod_takeM (k : UInt8) : Cod (takeM k) fieldF (okK k) := by
  rcases kind_cases k with hk | hk | hk | hk | hk | hk | hk
  · have := cod_ask k (.inl hk); rwa [show takeAsk k = takeM k from funext fun st => by simp only [takeM, hk]] at this
  · have := cod_tent k hk; rwa [show takeEnt k = takeM k from funext fun st => by simp only [takeM, hk]] at this
  · have := cod_have k hk; rwa [show takeHave k = takeM k from funext fun st => by simp only [takeM, hk]] at this
  · have := cod_tcfg k hk; rwa [show takeCfg k = takeM k from funext fun st => by simp only [takeM, hk]] at this
  · have := cod_whole k hk; rwa [show takeWhole k = takeM k from funext fun st => by simp only [takeM, hk]] at this
  · have := cod_ask k (.inr hk); rwa [show takeAsk k = takeM k from funext fun st => by simp only [takeM, hk]] at this
  · have e : ∀ st, takeM k st = (msg0, (40, [])) := fun st => by
      unfold takeM
      split <;> first | omega | rfl
    have hn : ∀ m, ¬ okK k m := fun m hm => by
      obtain ⟨rfl, hm⟩ := hm
      unfold okM at hm
      split at hm <;> first | omega | exact hm
    exact { fwd := fun a rest h => absurd h (hn a), bwd := fun st h => by (rw [e] at h; simp at h), stk := fun st h => by (rw [e]; simp) }
/-- a message and its kind -/
def msgR (st : Rd) : Msg × Rd := takeM (byteR st).1 (byteR st).2
theorem cod_msg : Cod msgR formM okM :=
  (cod_byte.seq (fun k _ => cod_takeM k) fun k => (cod_takeM k).stk).iso (fun x => x.2) (fun m => (m.kind, m)) (fun st => rfl)
    (fun m _ => rfl) (fun m hm => ⟨⟨trivial, rfl, hm⟩, rfl⟩) fun x hx => ⟨hx.2.2, by obtain ⟨k, m⟩ := x; obtain ⟨_, h2, _⟩ := hx; dsimp only at h2 ⊢; rw [h2]⟩
end Go.Proofs.Ytpdegeknhapgmaa

namespace Go.Proofs.Ytpdegeknhapgmaa
set_option linter.unusedVariables false
set_option linter.unusedSimpArgs false
def rng (m : Msg) : Prop := (I64 m.client ∧ I64 m.id ∧ I64 m.upto ∧ I64 m.frm ∧ I64 m.have_ ∧ I64 m.done ∧ I64 m.since) ∧ (I64 m.cfg.epoch ∧ ∀ x ∈ m.cfg.members, okMb x) ∧ ∀ e ∈ m.entries, I64 e.pos ∧ I64 e.stamp ∧ I64 e.client ∧ I64 e.id
theorem okPos_of {m : Msg} (hf : 1 ≤ m.frm) (hf2 : I64 m.frm) : ∀ {l : List Entry} {i : Nat}, allGE (pEnt m) i l = true → (∀ e ∈ l, I64 e.pos ∧ I64 e.stamp ∧ I64 e.client ∧ I64 e.id) → okPos m.frm i l
  | [], _, _, _ => trivial
  | e :: l, i, h, hr => by
    simp only [allGE, Bool.and_eq_true] at h
    refine ⟨?_, okPos_of hf hf2 h.2 fun x hx => hr x (by simp [hx])⟩
    have h1 := h.1
    simp only [pEnt, Bool.and_eq_true, beq_iff_eq] at h1
    obtain ⟨h2, h3⟩ := h1
    simp only [mayE, Bool.and_eq_true, decide_eq_true_eq] at h2
    obtain ⟨r1, r2, r3, r4⟩ := hr e (by simp)
    have hp : 1 ≤ e.pos := h2.1.1.1
    unfold I64 at r1 hf2
    rw [wrap_i64 (by omega) (by omega)] at h3
    refine ⟨?_, r2, r3, r4, by omega⟩
    rw [wrap_i64 (by omega) (by omega)]
    omega
theorem okM_of {m : Msg} (h : mayM m = true) (r : rng m) : okM m := by
  obtain ⟨⟨r1, r2, r3, r4, r5, r6, r7⟩, ⟨r8, r9⟩, r10⟩ := r
  unfold mayM at h
  unfold okM
  have ask : (mayAsk m && noneM (bareAsk m)) = true → m = { msg0 with kind := m.kind, client := m.client, id := m.id, body := m.body } ∧ I64 m.client ∧ I64 m.id ∧ m.body.length ≤ 65536 := fun h => by
    simp only [mayAsk, noneM, bareAsk, Bool.and_eq_true, decide_eq_true_eq, beq_iff_eq, List.isEmpty_iff] at h
    refine ⟨?_, r1, r2, by omega⟩
    obtain ⟨k, c, i, b, u, f, es, hv, d, ⟨ep, ms⟩, s⟩ := m
    simp [msg0, cfg0] at h ⊢
    obtain ⟨_, h1⟩ := h
    simp_all
  split at h
  · rename_i hk; (try simp only [hk]); exact ask h
  · rename_i hk; (try simp only [hk])
    simp only [Bool.and_eq_true] at h
    obtain ⟨h1, h2⟩ := h
    have hb := mayEnt_body h1
    simp only [mayEnt, Bool.and_eq_true, decide_eq_true_eq] at h1
    refine ⟨?_, r3, r4, hb.1, okPos_of h1.1.1.2 r4 h1.2 r10⟩
    simp only [noneM, bareEnt, Bool.and_eq_true, beq_iff_eq, List.isEmpty_iff] at h2
    obtain ⟨k, c, i, b, u, f, es, hv, d, ⟨ep, ms⟩, s⟩ := m
    simp [msg0, cfg0] at h2 ⊢
    simp_all
  · rename_i hk; (try simp only [hk])
    simp only [Bool.and_eq_true] at h
    obtain ⟨h1, h2⟩ := h
    refine ⟨?_, r5, r6⟩
    simp only [noneM, bareHave, Bool.and_eq_true, beq_iff_eq, List.isEmpty_iff] at h2
    obtain ⟨k, c, i, b, u, f, es, hv, d, ⟨ep, ms⟩, s⟩ := m
    simp [msg0, cfg0] at h2 ⊢
    simp_all
  · rename_i hk; (try simp only [hk])
    simp only [Bool.and_eq_true] at h
    obtain ⟨h1, h2⟩ := h
    have hc : okCf m.cfg := ⟨r8, by simp only [mayCfg, Bool.and_eq_true, decide_eq_true_eq] at h1; exact h1.1.2, r9⟩
    refine ⟨?_, hc⟩
    simp only [noneM, bareCfg, cfg0, Bool.and_eq_true, beq_iff_eq, List.isEmpty_iff] at h2
    obtain ⟨k, c, i, b, u, f, es, hv, d, ⟨ep, ms⟩, s⟩ := m
    simp [msg0, cfg0] at h2 ⊢
    simp_all
  · rename_i hk; (try simp only [hk])
    simp only [Bool.and_eq_true] at h
    obtain ⟨h1, h2⟩ := h
    refine ⟨?_, r7⟩
    simp only [noneM, bareWhole, Bool.and_eq_true, beq_iff_eq, List.isEmpty_iff] at h2
    obtain ⟨k, c, i, b, u, f, es, hv, d, ⟨ep, ms⟩, s⟩ := m
    simp [msg0, cfg0] at h2 ⊢
    simp_all
  · rename_i hk; (try simp only [hk]); exact ask h
  · cases h
theorem readM_eq (b : List UInt8) : readM b = msgR (newR b) := rfl
theorem newR_ok {b : List UInt8} (h : b.length ≤ 65536) : newR b = (0, b) := by unfold newR; rw [if_neg (by omega)]
theorem read_form {m : Msg} {c : List UInt8} (h : mayM m = true) (r : rng m) (hl : (formM m ++ c).length ≤ 65536) : readM (formM m ++ c) = (m, (0, c)) := by
  rw [readM_eq, newR_ok hl]
  exact cod_msg.fwd m c (okM_of h r)
theorem parse_form {m : Msg} (h : mayM m = true) (r : rng m) : parseM (formM m) = (m, 0) := by
  have h1 := read_form (c := []) h r (by rw [List.append_nil]; exact formM_length h)
  rw [List.append_nil] at h1
  unfold parseM
  rw [h1, if_pos ⟨by simp [endR], h⟩]
theorem parse_more {m : Msg} {c : List UInt8} (h : mayM m = true) (r : rng m) (hl : (formM m ++ c).length ≤ 65536) : parseM (formM m ++ c) = if c = [] then (m, 0) else (msg0, 200) := by
  have h1 := read_form h r hl
  unfold parseM
  rw [h1]
  by_cases hc : c = []
  · rw [if_pos ⟨by simp [endR, hc], h⟩, if_pos hc]
  · rw [if_neg (by simp [endR, hc]), if_neg hc]
theorem parse_cases (b : List UInt8) (hl : b.length ≤ 65536) : (∃ w, parseM b = (w, 0) ∧ mayM w = true ∧ formM w = b ∧ okM w) ∨ parseM b = (msg0, 200) := by
  unfold parseM
  by_cases hg : endR (readM b).2 = 0 ∧ mayM (readM b).1 = true
  · rw [if_pos hg]
    refine .inl ⟨_, rfl, hg.2, ?_⟩
    have he := hg.1
    unfold endR at he
    split at he
    · rename_i h0
      split at he
      · rename_i h1
        have := cod_msg.bwd (newR b) (by rw [← readM_eq]; exact h0)
        rw [← readM_eq, h1, List.append_nil, newR_ok hl] at this
        exact ⟨this.1.symm, this.2⟩
      · cases he
    · rename_i h0; exact absurd he h0
  · rw [if_neg hg]; exact .inr rfl
theorem parse_cut {m : Msg} {b c : List UInt8} (h : mayM m = true) (r : rng m) (hb : formM m = b ++ c) (hc : c ≠ []) : parseM b = (msg0, 200) := by
  have hl := formM_length h
  rw [hb, List.length_append] at hl
  rcases parse_cases b (by omega) with ⟨w, h1, h2, h3, h4⟩ | h1
  · have e1 : msgR (0, formM w ++ c) = (w, (0, c)) := cod_msg.fwd w c h4
    have e2 : msgR (0, formM m ++ []) = (m, (0, [])) := cod_msg.fwd m [] (okM_of h r)
    rw [List.append_nil, hb, ← h3, e1] at e2
    simp at e2
    exact absurd e2.2 hc
  · exact h1
end Go.Proofs.Ytpdegeknhapgmaa

namespace Go.Proofs.Ytpdegeknhapgmaa
set_option linter.unusedVariables false
set_option linter.unusedSimpArgs false
set_option maxHeartbeats 8000000
open Go.RowKit
set_option maxRecDepth 100000
theorem dclient_ac (who id : Int) : AC Try.prog 48 [I who, I id] [] (fun v bs => v = B (clientS who id) ∧ bs = []) := by
  refine AC.N Try.func48 Try.ntmps48 ?_
  intro X
  simp only [nx, Nat.reduceAdd, Nat.reduceSub, BEq.rfl]
  repeat' (first
    | ((first
    | ((with_reducible apply AP.k_any); first
             | refine AP.S ?_
             | (refine AP.Y ?_; dsimp only) | refine AP.G (fun hg => ?_) (fun hg => ?_)
      )
    
    
    )
      <;> (try simp only [nx, Nat.reduceAdd, Nat.reduceSub, BEq.rfl]))
    | ((with_reducible apply AP.k_nil); first
        | (refine AP.nil (hQ' _ ?_); clear hQ' Q')
        | refine AP.nil ?_)
    | ((with_reducible apply CP.k_reg); refine cp_regG fun Q' hQ' => ?_)
      | (with_reducible apply CP.k_reg1; refine cp_region ?_)
      | ((with_reducible apply CP.k_cond); first | refine cp_condT rfl ?_ | refine cp_condF rfl ?_ | refine cp_cond rfl (fun hc => ?_) (fun hc => ?_))
      | refine CP.go ?_
      | (simp only [List.append_eq, List.cons_append, List.nil_append]))
  all_goals (refine RetQ.B [] ?_; (try dsimp only [resV, List.getD_cons_succ, List.getD_cons_zero]); ((refine ⟨?_, rfl⟩; simp at *; simp [clientS]; try omega)))
theorem dmayEntry_ac (e : Entry) : AC Try.prog 18 [.ag (eE none e)] [] (fun v bs => v = B (mayE e) ∧ bs = []) := by
  refine AC.N Try.func18 Try.ntmps18 ?_
  intro X
  simp only [nx, Nat.reduceAdd, Nat.reduceSub, BEq.rfl]
  repeat' (first
    | ((first
    | ((with_reducible apply AP.k_any); first
             | refine AP.S ?_
             | (refine AP.Y ?_; dsimp only) | refine AP.G (fun hg => ?_) (fun hg => ?_)
      )
    | ((with_reducible apply AP.k_any); refine AP.C (dclient_ac _ _) ?_)
    
    | ((with_reducible apply AQ.k_any); refine AQ.CQ (dclient_ac _ _) ?_))
      <;> (try simp only [nx, Nat.reduceAdd, Nat.reduceSub, BEq.rfl]))
    | ((with_reducible apply AP.k_nil); first
        | (refine AP.nil (hQ' _ ?_); clear hQ' Q')
        | refine AP.nil ?_)
    | ((with_reducible apply CP.k_reg); refine cp_regG fun Q' hQ' => ?_)
      | (with_reducible apply CP.k_reg1; refine cp_region ?_)
      | ((with_reducible apply CP.k_cond); first | refine cp_condT rfl ?_ | refine cp_condF rfl ?_ | refine cp_cond rfl (fun hc => ?_) (fun hc => ?_))
      | refine CP.go ?_
      | (simp only [List.append_eq, List.cons_append, List.nil_append]))
  all_goals (refine RetQ.B [] ?_; (try dsimp only [resV, List.getD_cons_succ, List.getD_cons_zero]); ((refine ⟨?_, rfl⟩; simp at *; simp [mayE, *]; try omega)))
theorem dmayConfig_ac (c : Config) (hl : c.members.length ≤ 100000000) : AC Try.prog 20 [.ag (eC none c)] [] (fun v bs => v = B (mayCfg c) ∧ bs = []) := by
  refine AC.N Try.func20 Try.ntmps20 ?_
  intro X
  simp only [nx, Nat.reduceAdd, Nat.reduceSub, BEq.rfl]
  repeat' (first
    | ((first
    | ((with_reducible apply AP.k_any); first
             | refine AP.S ?_
             | refine AP.E ?_
             | (refine AP.Y ?_; dsimp only) | refine AP.G (fun hg => ?_) (fun hg => ?_)
             | refine AP.T ?_
             | (refine AP.V (fun c hnil => ?_); simp only [nz])
      )
    
    )
      <;> (try simp only [nx, Nat.reduceAdd, Nat.reduceSub, BEq.rfl]))
    | ((with_reducible apply AP.k_nil); first
        | (refine AP.nil (hQ' _ ?_); clear hQ' Q')
        | refine AP.nil ?_)
    | ((with_reducible apply CP.k_reg); refine cp_regG fun Q' hQ' => ?_)
      | (with_reducible apply CP.k_reg1; refine cp_region ?_)
      | ((with_reducible apply CP.k_cond); first | refine cp_condT rfl ?_ | refine cp_condF rfl ?_ | refine cp_cond rfl (fun hc => ?_) (fun hc => ?_))
      | refine CP.go ?_
      | (simp only [List.append_eq, List.cons_append, List.nil_append]))
  · (refine RetQ.B [] ?_; (try dsimp only [resV, List.getD_cons_succ, List.getD_cons_zero]); ((have h : mayCfg c = false := by (simp [mayCfg]; simp at *; omega)); exact ⟨by rw [h], rfl⟩))
  · (refine RetQ.B [] ?_; (try dsimp only [resV, List.getD_cons_succ, List.getD_cons_zero]); ((have h : mayCfg c = false := by (simp [mayCfg]; simp at *; omega)); exact ⟨by rw [h], rfl⟩))
  have hm : mayCfg c = allG (pMem c) 0 c.members := by
    have e1 : 1 ≤ c.epoch := by simp at *; omega
    have e2 : c.members.length ≤ 5 := by simp at *; omega
    simp [mayCfg, e1, e2]
  refine CP.gh gh_slot ?_; simp only [nx, Nat.reduceAdd, Nat.reduceSub, BEq.rfl]
  refine cp_loopS [2, 3, 4, 5, 15, 16, 17, 18, 19, 20, 21, 22, 23, 24, 25, 26, 27, 28, 29, 30, 31, 32, 33, 34, 35, 36, 37, 38, 39, 40, 41, 42, 43, 44, 45, 46, 47, 48, 49, 50, 51, 52, 53, 54, 55, 56, 57, 58, 59, 60] (fun a : Nat × Nat => c.members.length - a.1) (fun a => a.1 ≤ c.members.length ∧ mayCfg c = allG (pMem c) a.1 (c.members.drop a.1)) (fun a => [(3, I a.1)]) (fun a => [(1, ⟨a.2, .x⟩)]) (0, 0) ⟨Nat.zero_le _, hm⟩ (by exact Gh.W) ?_
  rintro ⟨i, u⟩ ⟨hi, he⟩
  simp only [setT, deT, setB, List.set_cons_succ, List.set_cons_zero]
  dsimp only at hi he
  by_cases hlt : i < c.members.length
  · have hw : IntKind.i64.wrap ((i : Int) + 1) = ((i + 1 : Nat) : Int) := wrap_i64 (by omega) (by omega)
    rw [List.drop_eq_getElem_cons hlt, allG] at he
    repeat' (first
      | ((first
      | ((with_reducible apply AP.k_any); first
               | refine AP.S ?_
               | refine AP.E ?_
               | (refine AP.Y ?_; dsimp only) | refine AP.G (fun hg => ?_) (fun hg => ?_)
               | refine AP.T ?_
               | (refine AP.V (fun c hnil => ?_); simp only [nz])
        )
      
      )
        <;> (try simp only [nx, Nat.reduceAdd, Nat.reduceSub, BEq.rfl]))
      | ((with_reducible apply AP.k_nil); first
          | (refine AP.nil (hQ' _ ?_); clear hQ' Q')
          | refine AP.nil ?_)
      | ((with_reducible apply CP.k_reg); refine cp_regG fun Q' hQ' => ?_)
        | (with_reducible apply CP.k_reg1; refine cp_region ?_)
        | ((with_reducible apply CP.k_cond); first | refine cp_condT rfl ?_ | refine cp_condF rfl ?_ | refine cp_cond rfl (fun hc => ?_) (fun hc => ?_))
        | refine CP.go ?_
        | (simp only [List.append_eq, List.cons_append, List.nil_append]))
    · (refine RetQ.B [] ?_; (try dsimp only [resV, List.getD_cons_succ, List.getD_cons_zero]); ((have h : pMem c i c.members[i] = false := by (cases h : pMem c i c.members[i] with | false => rfl | true => (exfalso; clear he hm hw; simp [pMem] at h; simp at *; omega))); exact ⟨by rw [he, h, Bool.false_and], rfl⟩))
    · (refine RetQ.B [] ?_; (try dsimp only [resV, List.getD_cons_succ, List.getD_cons_zero]); ((have h : pMem c i c.members[i] = false := by (cases h : pMem c i c.members[i] with | false => rfl | true => (exfalso; clear he hm hw; simp [pMem] at h; simp at *; omega))); exact ⟨by rw [he, h, Bool.false_and], rfl⟩))
    · (refine RetQ.B [] ?_; (try dsimp only [resV, List.getD_cons_succ, List.getD_cons_zero]); ((have h : pMem c i c.members[i] = false := by (cases h : pMem c i c.members[i] with | false => rfl | true => (exfalso; clear he hm hw; simp [pMem] at h; simp at *; omega))); exact ⟨by rw [he, h, Bool.false_and], rfl⟩))
    · (refine RetQ.B [] ?_; (try dsimp only [resV, List.getD_cons_succ, List.getD_cons_zero]); ((have h : pMem c i c.members[i] = false := by (cases h : pMem c i c.members[i] with | false => rfl | true => (exfalso; clear he hm hw; simp [pMem] at h; simp at *; omega))); exact ⟨by rw [he, h, Bool.false_and], rfl⟩))
    · have hq : pMem c i c.members[i] = allG (pNode c.members[i].node) 0 (c.members.take i) := by
        have f1 : 0 ≤ c.members[i].node := by clear he hm hw; simp at *; omega
        have f2 : c.members[i].node < 5 := by clear he hm hw; simp at *; omega
        have f3 : 1 ≤ c.members[i].since := by clear he hm hw; simp at *; omega
        have f4 : c.members[i].since ≤ c.epoch := by clear he hm hw; simp at *; omega
        simp [pMem, f1, f2, f3, f4]
      rw [hq] at he
      refine cp_loopS [2, 5, 47, 48, 49, 50, 51, 52, 53, 54, 55, 56, 57, 58, 59, 60] (fun k : Nat => i - k) (fun k => k ≤ i ∧ allG (pNode c.members[i].node) 0 (c.members.take i) = allG (pNode c.members[i].node) k ((c.members.take i).drop k)) (fun k => [(5, I k)]) (fun _ => []) 0 ⟨Nat.zero_le _, rfl⟩ (by exact Gh.W) ?_
      rintro k ⟨hk, hke⟩
      simp only [setT, deT, setB, List.set_cons_succ, List.set_cons_zero]
      by_cases hlk : k < i
      · have hwk : IntKind.i64.wrap ((k : Int) + 1) = ((k + 1 : Nat) : Int) := wrap_i64 (by omega) (by omega)
        have hkm : k < c.members.length := by omega
        have e5 : (c.members.take i).drop k = c.members[k] :: (c.members.take i).drop (k + 1) := by
          rw [List.drop_eq_getElem_cons (by simp; omega)]
          simp
        rw [e5, allG] at hke
        repeat' (first
          | ((first
          | ((with_reducible apply AP.k_any); first
                   | refine AP.S ?_
                   | refine AP.E ?_
                   | (refine AP.Y ?_; dsimp only) | refine AP.G (fun hg => ?_) (fun hg => ?_)
                   | refine AP.T ?_
                   | (refine AP.V (fun c hnil => ?_); simp only [nz])
            )
          
          | ((with_reducible apply AQ.k_any); first
                          | refine AQ.S ?_
                          | refine AQ.E ?_
                          | (refine AQ.Y ?_; dsimp only) | refine AQ.G (fun hg => ?_) (fun hg => ?_)
            )
          )
            <;> (try simp only [nx, Nat.reduceAdd, Nat.reduceSub, BEq.rfl]))
          | ((with_reducible apply AP.k_nil); first
              | (refine AP.nil (hQ' _ ?_); clear hQ' Q')
              | refine AP.nil ?_)
          | ((with_reducible apply AQ.k_nil); first | (refine AQ.nil (hQ' _ ?_); clear hQ' Q') | refine AQ.nil ?_)
          | ((with_reducible apply CP.k_drw); refine cp_drw (by kernel_rfl) (by kernel_rfl) fun Q' hQ' => ?_)
          | ((with_reducible apply CP.k_drw1); refine cp_draw (by kernel_rfl) (by kernel_rfl) ?_)
          | ((with_reducible apply CP.k_reg); refine cp_regG fun Q' hQ' => ?_)
            | (with_reducible apply CP.k_reg1; refine cp_region ?_)
            | ((with_reducible apply CP.k_cond); first | refine cp_condT rfl ?_ | refine cp_condF rfl ?_ | refine cp_cond rfl (fun hc => ?_) (fun hc => ?_))
            | refine CP.go ?_
            | (simp only [List.append_eq, List.cons_append, List.nil_append]))
        · have h : pNode c.members[i].node k c.members[k] = false := by simp [pNode]; simpa using hc
          (refine RetQ.B [] ?_; (try dsimp only [resV, List.getD_cons_succ, List.getD_cons_zero]); (exact ⟨by rw [he, hke, h, Bool.false_and, Bool.false_and], rfl⟩))
        · have h : pNode c.members[i].node k c.members[k] = true := by simp [pNode]; simpa using hc
          simp only [hwk]
          exact ⟨k + 1, by omega, ⟨by omega, by rw [hke, h, Bool.true_and]⟩, by exact Gh.W⟩
        · exfalso; simp at *; omega
      · obtain rfl : k = i := by omega
        rw [List.drop_of_length_le (by simp; omega), allG] at hke
        repeat' (first
          | ((first
          | ((with_reducible apply AP.k_any); first
                   | refine AP.S ?_
                   | refine AP.E ?_
                   | (refine AP.Y ?_; dsimp only) | refine AP.G (fun hg => ?_) (fun hg => ?_)
                   | refine AP.T ?_
                   | (refine AP.V (fun c hnil => ?_); simp only [nz])
            )
          
          | ((with_reducible apply AQ.k_any); first
                          | refine AQ.S ?_
                          | refine AQ.E ?_
                          | (refine AQ.Y ?_; dsimp only) | refine AQ.G (fun hg => ?_) (fun hg => ?_)
            )
          )
            <;> (try simp only [nx, Nat.reduceAdd, Nat.reduceSub, BEq.rfl]))
          | ((with_reducible apply AP.k_nil); first
              | (refine AP.nil (hQ' _ ?_); clear hQ' Q')
              | refine AP.nil ?_)
          | ((with_reducible apply AQ.k_nil); first | (refine AQ.nil (hQ' _ ?_); clear hQ' Q') | refine AQ.nil ?_)
          | ((with_reducible apply CP.k_drw); refine cp_drw (by kernel_rfl) (by kernel_rfl) fun Q' hQ' => ?_)
          | ((with_reducible apply CP.k_drw1); refine cp_draw (by kernel_rfl) (by kernel_rfl) ?_)
          | ((with_reducible apply CP.k_reg); refine cp_regG fun Q' hQ' => ?_)
            | (with_reducible apply CP.k_reg1; refine cp_region ?_)
            | ((with_reducible apply CP.k_cond); first | refine cp_condT rfl ?_ | refine cp_condF rfl ?_ | refine cp_cond rfl (fun hc => ?_) (fun hc => ?_))
            | refine CP.go ?_
            | (simp only [List.append_eq, List.cons_append, List.nil_append]))
        · exfalso; simp at *
        · simp only [hw]
          exact ⟨(k + 1, u + 1), by (dsimp only; omega), ⟨by (dsimp only; omega), by (dsimp only; rw [he, hke, Bool.true_and])⟩, by exact Gh.W⟩
    · exfalso; simp at *; omega
  · rw [List.drop_of_length_le (by omega), allG] at he
    repeat' (first
      | ((first
      | ((with_reducible apply AP.k_any); first
               | refine AP.S ?_
               | refine AP.E ?_
               | (refine AP.Y ?_; dsimp only) | refine AP.G (fun hg => ?_) (fun hg => ?_)
               | refine AP.T ?_
               | (refine AP.V (fun c hnil => ?_); simp only [nz])
        )
      
      )
        <;> (try simp only [nx, Nat.reduceAdd, Nat.reduceSub, BEq.rfl]))
      | ((with_reducible apply AP.k_nil); first
          | (refine AP.nil (hQ' _ ?_); clear hQ' Q')
          | refine AP.nil ?_)
      | ((with_reducible apply CP.k_reg); refine cp_regG fun Q' hQ' => ?_)
        | (with_reducible apply CP.k_reg1; refine cp_region ?_)
        | ((with_reducible apply CP.k_cond); first | refine cp_condT rfl ?_ | refine cp_condF rfl ?_ | refine cp_cond rfl (fun hc => ?_) (fun hc => ?_))
        | refine CP.go ?_
        | (simp only [List.append_eq, List.cons_append, List.nil_append]))
    all_goals first
      | (exfalso; simp at *; done)
      | (exfalso; simp at *; omega)
      | (refine RetQ.B [] ?_; (try dsimp only [resV, List.getD_cons_succ, List.getD_cons_zero]); (exact ⟨by rw [he], rfl⟩))
end Go.Proofs.Ytpdegeknhapgmaa

namespace Go.Proofs.Ytpdegeknhapgmaa
set_option linter.unusedVariables false
set_option linter.unusedSimpArgs false
set_option maxHeartbeats 8000000
open Go.RowKit
set_option maxRecDepth 100000
def fieldsS (m : Msg) : Msg := match m.kind.toNat with
  | 1 => { msg0 with kind := m.kind, client := m.client, id := m.id, body := m.body }
  | 2 => { msg0 with kind := m.kind, upto := m.upto, frm := m.frm, entries := m.entries }
  | 3 => { msg0 with kind := m.kind, have_ := m.have_, done := m.done }
  | 4 => { msg0 with kind := m.kind, cfg := m.cfg }
  | 5 => { msg0 with kind := m.kind, since := m.since }
  | 6 => { msg0 with kind := m.kind, client := m.client, id := m.id, body := m.body }
  | _ => { msg0 with kind := m.kind }
theorem dfields_ac (m : Msg) : AC Try.prog 52 [.ag (eG m)] [] (fun v bs => v = .ag (eG (fieldsS m)) ∧ bs = []) := by
  rcases kind_cases m.kind with hk | hk | hk | hk | hk | hk | hk
  case inr.inr.inr.inr.inr.inr =>
    have e : fieldsS m = { msg0 with kind := m.kind } := by unfold fieldsS; split <;> first | omega | rfl
    rw [e]
    refine AC.N Try.func52 Try.ntmps52 ?_
    intro X
    simp only [nx, Nat.reduceAdd, Nat.reduceSub, BEq.rfl]
    repeat' (first
      | ((first
      | ((with_reducible apply AP.k_any); first
              | refine AP.S ?_
              | refine AP.A ?_ | refine AP.AB 0 ?_ | refine AP.AB 1 ?_ | refine AP.AL ?_
              )
        | ((with_reducible apply DW.k_any); first
          | refine DW.R ?_ | refine DW.R' ?_ | refine DW.W ?_ | refine DW.W' ?_ | refine DW.A ?_ | refine DW.A' ?_ | ((fail_if_success refine DW.known rfl ?_); refine DW.G (fun hg => ?_) (fun hg => ?_))
          )
      ) <;> (try simp only [nx, Nat.reduceAdd, Nat.reduceSub, BEq.rfl]))
      | ((with_reducible apply AP.k_nil); first | (refine AP.nil (hQ' _ ?_); clear hQ' Q') | refine AP.nil ?_)
      | ((with_reducible apply CP.k_drw); refine cp_drwX fun Q' hQ' => ?_)
      | ((with_reducible apply CP.k_drw1); refine cp_drawX ?_)
      | ((with_reducible apply DW.k_nil); refine DW.nl ?_; first | (refine hQ' _ ?_; clear hQ' Q') | skip)
      | ((with_reducible apply CP.k_reg); refine cp_regG fun Q' hQ' => ?_)
        | (with_reducible apply CP.k_reg1; refine cp_region ?_)
        | ((with_reducible apply CP.k_cond); first | refine cp_condT rfl ?_ | refine cp_condF rfl ?_ | refine cp_cond rfl (fun hc => ?_) (fun hc => ?_))
        | refine CP.go ?_
        | (simp only [List.append_eq, List.cons_append, List.nil_append]))
    all_goals first
      | (exfalso; simp at *; omega)
      | (exact RetQ.A [] (by exact ⟨rfl, rfl⟩))
  all_goals
    have hk' := congrArg Int.ofNat hk
    simp only [Int.ofNat_eq_natCast] at hk'
    unfold fieldsS; simp only [hk]
    refine AC.N Try.func52 Try.ntmps52 ?_
    intro X
    simp only [nx, Nat.reduceAdd, Nat.reduceSub, BEq.rfl]
    simp only [hk', eG, U]
    repeat' (first
      | ((first
      | ((with_reducible apply AP.k_any); first
              | refine AP.S ?_
              | refine AP.A ?_ | refine AP.AB 0 ?_ | refine AP.AB 1 ?_ | refine AP.AL ?_
              )
        | ((with_reducible apply DW.k_any); first
          | refine DW.R ?_ | refine DW.R' ?_ | refine DW.W ?_ | refine DW.W' ?_ | refine DW.A ?_ | refine DW.A' ?_ | ((fail_if_success refine DW.known rfl ?_); refine DW.G (fun hg => ?_) (fun hg => ?_))
          )
      ) <;> (try simp only [nx, Nat.reduceAdd, Nat.reduceSub, BEq.rfl]))
      | ((with_reducible apply AP.k_nil); first | (refine AP.nil (hQ' _ ?_); clear hQ' Q') | refine AP.nil ?_)
      | ((with_reducible apply CP.k_drw); refine cp_drwX fun Q' hQ' => ?_)
      | ((with_reducible apply CP.k_drw1); refine cp_drawX ?_)
      | ((with_reducible apply DW.k_nil); refine DW.nl ?_; first | (refine hQ' _ ?_; clear hQ' Q') | skip)
      | ((with_reducible apply CP.k_reg); refine cp_regG fun Q' hQ' => ?_)
        | (with_reducible apply CP.k_reg1; refine cp_region ?_)
        | ((with_reducible apply CP.k_cond); first | refine cp_condT rfl ?_ | refine cp_condF rfl ?_ | refine cp_cond rfl (fun hc => ?_) (fun hc => ?_))
        | refine CP.go ?_
        | (simp only [List.append_eq, List.cons_append, List.nil_append]))
    (exact RetQ.A [] (by exact ⟨rfl, rfl⟩))
end Go.Proofs.Ytpdegeknhapgmaa

namespace Go.Proofs.Ytpdegeknhapgmaa
set_option linter.unusedVariables false
set_option linter.unusedSimpArgs false
set_option maxHeartbeats 8000000
open Go.RowKit
set_option maxRecDepth 100000
def pEntD (m : Msg) : Nat → Entry → Bool := fun i e => mayE e && e.pos == IntKind.i64.wrap (m.frm + i)
def mayEntD (m : Msg) : Bool := decide (0 ≤ m.upto) && decide (1 ≤ m.frm) && decide (m.entries.length ≤ 4) && allGE (pEntD m) 0 m.entries
def kindD (m : Msg) : Bool := match m.kind.toNat with
  | 1 => mayAsk m
  | 2 => mayEntD m
  | 3 => mayHave m
  | 4 => mayCfg m.cfg
  | 5 => mayWhole m
  | 6 => mayAsk m
  | _ => false
def mayD (m : Msg) : Bool := eqG m (fieldsS m) && kindD m
theorem allGE_congr {p q : Nat → Entry → Bool} : ∀ {l : List Entry} {k : Nat}, (∀ (i : Nat) (e : Entry), l[i]? = some e → p (k + i) e = q (k + i) e) → allGE p k l = allGE q k l
  | [], _, _ => rfl
  | x :: l, k, h => by
    simp only [allGE]
    have h0 : p k x = q k x := h 0 x rfl
    have h1 : allGE p (k + 1) l = allGE q (k + 1) l := allGE_congr fun i e he => by
      have := h (i + 1) e (by simpa using he)
      rwa [show k + (i + 1) = k + 1 + i by omega] at this
    rw [h0, h1]
theorem mayEntD_eq {m : Msg} (r : rng m) : mayEntD m = mayEnt m := by
  unfold mayEntD mayEnt
  by_cases h : 1 ≤ m.frm ∧ m.entries.length ≤ 4
  · congr 1
    refine allGE_congr fun i e he => ?_
    have hi : i < m.entries.length := (List.getElem?_eq_some_iff.1 he).1
    have h1 := (r.2.2 e (List.mem_of_getElem? he)).1
    have h2 := r.1.2.2.2.1
    unfold pEntD pEnt
    cases hE : mayE e with
    | false => rfl
    | true =>
      simp only [mayE, Bool.and_eq_true, decide_eq_true_eq] at hE
      have h3 := hE.1.1.1
      unfold I64 at h1 h2
      rw [Bool.eq_iff_iff]
      simp only [Bool.true_and, beq_iff_eq, Nat.zero_add]
      rw [wrap_i64 (x := e.pos - m.frm) (by omega) (by omega)]
      by_cases hb : m.frm + i ≤ 9223372036854775807
      · rw [wrap_i64 (by omega) (by omega)]; omega
      · have : IntKind.i64.wrap (m.frm + i) = m.frm + i - 18446744073709551616 := by
          simp only [IntKind.wrap, IntKind.bits, IntKind.signed]; simp; omega
        rw [this]; omega
  · have : (decide (1 ≤ m.frm) && decide (m.entries.length ≤ 4)) = false := by
      rw [Bool.eq_false_iff]; simp only [ne_eq, Bool.and_eq_true, decide_eq_true_eq]; exact h
    rw [Bool.and_assoc (decide (0 ≤ m.upto)), this]; simp
theorem mayD_eq {m : Msg} (r : rng m) : mayD m = mayM m := by
  have he := mayEntD_eq r
  unfold mayD kindD mayM
  rw [he]
  rcases kind_cases m.kind with hk | hk | hk | hk | hk | hk | hk
  case inr.inr.inr.inr.inr.inr => split <;> first | omega | simp
  all_goals
    simp only [hk]
    rw [Bool.and_comm]
    congr 1
    rw [Bool.eq_iff_iff, eqG_iff]
    unfold fieldsS; simp only [hk]
    obtain ⟨k, a, b, c, d, e, f, g, h, ⟨ce, cm⟩, i⟩ := m
    simp [noneM, bareAsk, bareEnt, bareHave, bareCfg, bareWhole, msg0, cfg0, and_assoc]
theorem fields_small {m : Msg} (h : m.small) : (fieldsS m).small := by
  unfold fieldsS
  split <;> (obtain ⟨h1, h2, h3, h4⟩ := h; simp [Msg.small, msg0, cfg0]; try first | omega | exact ⟨h2, h4⟩)
theorem dmayMsg_ac (m : Msg) (hs : m.small) : AC Try.prog 22 [.ag (eG m)] [] (fun v bs => v = B (mayD m) ∧ bs = []) := by
  have h1 := dfields_ac m
  have h2 := dsameG_ac m (fieldsS m) hs
  have h3 := dclient_ac m.client m.id
  have h4 := dmayConfig_ac m.cfg hs.2.2.1
  unfold mayD
  generalize hq : eqG m (fieldsS m) = q at h2 ⊢
  generalize fieldsS m = mf at h1 h2
  cases q with
  | false =>
    refine AC.N Try.func22 Try.ntmps22 ?_
    intro X
    simp only [nx, Nat.reduceAdd, Nat.reduceSub, BEq.rfl]
    repeat' (first
      | ((first
      | ((with_reducible apply AP.k_any); first
              | refine AP.S ?_
              | refine AP.E ?_
              | (refine AP.Y ?_; dsimp only) | refine AP.G (fun hg => ?_) (fun hg => ?_)
              | (refine AP.V (fun c hnil => ?_); simp only [nz])
              | refine AP.A ?_ | refine AP.AB 0 ?_ | refine AP.AB 1 ?_ | refine AP.AL ?_
              )
        | ((with_reducible apply DW.k_any); first
          | refine DW.R ?_ | refine DW.R' ?_ | refine DW.W ?_ | refine DW.W' ?_ | refine DW.A ?_ | refine DW.A' ?_ | ((fail_if_success refine DW.known rfl ?_); refine DW.G (fun hg => ?_) (fun hg => ?_))
          )
      ) <;> (try simp only [nx, Nat.reduceAdd, Nat.reduceSub, BEq.rfl]))
      | ((with_reducible apply AP.k_nil); first | (refine AP.nil (hQ' _ ?_); clear hQ' Q') | refine AP.nil ?_)
      | ((with_reducible apply CP.k_drw); refine cp_drwX fun Q' hQ' => ?_)
      | ((with_reducible apply CP.k_drw1); refine cp_drawX ?_)
      | ((with_reducible apply DW.k_nil); refine DW.nl ?_; first | (refine hQ' _ ?_; clear hQ' Q') | skip)
      | ((with_reducible apply CP.k_reg); refine cp_regG fun Q' hQ' => ?_)
        | (with_reducible apply CP.k_reg1; refine cp_region ?_)
        | ((with_reducible apply CP.k_cond); first | refine cp_condT rfl ?_ | refine cp_condF rfl ?_ | refine cp_cond rfl (fun hc => ?_) (fun hc => ?_))
        | refine CP.go ?_
        | (simp only [List.append_eq, List.cons_append, List.nil_append]))
    (refine RetQ.B [] ?_; (try dsimp only [resV, List.getD_cons_succ, List.getD_cons_zero]); (exact ⟨rfl, rfl⟩))
  | true =>
    rcases kind_cases m.kind with hk | hk | hk | hk | hk | hk | hk
    case inr.inr.inr.inr.inr.inr =>
      have e : kindD m = false := by unfold kindD; split <;> first | omega | rfl
      rw [e]
      refine AC.N Try.func22 Try.ntmps22 ?_
      intro X
      simp only [nx, Nat.reduceAdd, Nat.reduceSub, BEq.rfl]
      repeat' (first
        | ((first
        | ((with_reducible apply AP.k_any); first
                | refine AP.S ?_
                | refine AP.E ?_
                | (refine AP.Y ?_; dsimp only) | refine AP.G (fun hg => ?_) (fun hg => ?_)
                | (refine AP.V (fun c hnil => ?_); simp only [nz])
                | refine AP.A ?_ | refine AP.AB 0 ?_ | refine AP.AB 1 ?_ | refine AP.AL ?_
                )
          | ((with_reducible apply DW.k_any); first
            | refine DW.R ?_ | refine DW.R' ?_ | refine DW.W ?_ | refine DW.W' ?_ | refine DW.A ?_ | refine DW.A' ?_ | ((fail_if_success refine DW.known rfl ?_); refine DW.G (fun hg => ?_) (fun hg => ?_))
            )
        ) <;> (try simp only [nx, Nat.reduceAdd, Nat.reduceSub, BEq.rfl]))
        | ((with_reducible apply AP.k_nil); first | (refine AP.nil (hQ' _ ?_); clear hQ' Q') | refine AP.nil ?_)
        | ((with_reducible apply CP.k_drw); refine cp_drwX fun Q' hQ' => ?_)
        | ((with_reducible apply CP.k_drw1); refine cp_drawX ?_)
        | ((with_reducible apply DW.k_nil); refine DW.nl ?_; first | (refine hQ' _ ?_; clear hQ' Q') | skip)
        | ((with_reducible apply CP.k_reg); refine cp_regG fun Q' hQ' => ?_)
          | (with_reducible apply CP.k_reg1; refine cp_region ?_)
          | ((with_reducible apply CP.k_cond); first | refine cp_condT rfl ?_ | refine cp_condF rfl ?_ | refine cp_cond rfl (fun hc => ?_) (fun hc => ?_))
          | refine CP.go ?_
          | (simp only [List.append_eq, List.cons_append, List.nil_append]))
      all_goals try (exfalso; (repeat (rename AC _ _ _ _ _ => hzz; clear hzz)); simp at *; omega)
      (refine RetQ.B [] ?_; (try dsimp only [resV, List.getD_cons_succ, List.getD_cons_zero]); (exact ⟨rfl, rfl⟩))
    case inr.inl =>
      have hk' := congrArg Int.ofNat hk
      simp only [Int.ofNat_eq_natCast] at hk'
      unfold kindD; simp only [hk]
      obtain ⟨hs1, hs2, hs3, hs4⟩ := hs
      refine AC.N Try.func22 Try.ntmps22 ?_
      intro X
      simp only [nx, Nat.reduceAdd, Nat.reduceSub, BEq.rfl]
      simp only [hk', eG, U] at h1 h2 ⊢
      repeat' (first
        | ((first
        | ((with_reducible apply AP.k_any); first
                | refine AP.S ?_
                | refine AP.E ?_
                | (refine AP.Y ?_; dsimp only) | refine AP.G (fun hg => ?_) (fun hg => ?_)
                | (refine AP.V (fun c hnil => ?_); simp only [nz])
                | refine AP.A ?_ | refine AP.AB 0 ?_ | refine AP.AB 1 ?_ | refine AP.AL ?_
                )
          | ((with_reducible apply DW.k_any); first
            | refine DW.R ?_ | refine DW.R' ?_ | refine DW.W ?_ | refine DW.W' ?_ | refine DW.A ?_ | refine DW.A' ?_ | ((fail_if_success refine DW.known rfl ?_); refine DW.G (fun hg => ?_) (fun hg => ?_))
            )
        ) <;> (try simp only [nx, Nat.reduceAdd, Nat.reduceSub, BEq.rfl]))
        | ((with_reducible apply AP.k_nil); first | (refine AP.nil (hQ' _ ?_); clear hQ' Q') | refine AP.nil ?_)
        | ((with_reducible apply CP.k_drw); refine cp_drwX fun Q' hQ' => ?_)
        | ((with_reducible apply CP.k_drw1); refine cp_drawX ?_)
        | ((with_reducible apply DW.k_nil); refine DW.nl ?_; first | (refine hQ' _ ?_; clear hQ' Q') | skip)
        | ((with_reducible apply CP.k_reg); refine cp_regG fun Q' hQ' => ?_)
          | (with_reducible apply CP.k_reg1; refine cp_region ?_)
          | ((with_reducible apply CP.k_cond); first | refine cp_condT rfl ?_ | refine cp_condF rfl ?_ | refine cp_cond rfl (fun hc => ?_) (fun hc => ?_))
          | refine CP.go ?_
          | (simp only [List.append_eq, List.cons_append, List.nil_append]))
      all_goals try (refine RetQ.B [] ?_; (try dsimp only [resV, List.getD_cons_succ, List.getD_cons_zero]); ((refine ⟨congrArg B ?_, rfl⟩; (repeat (rename AC _ _ _ _ _ => hzz; clear hzz)); simp at *; simp [mayEntD]; omega)))
      refine cp_loopS [2, 3, 41, 42, 43, 44, 45, 46, 47, 48, 49, 50, 51, 52, 53, 54, 55, 56, 57, 58, 59, 60, 61, 62, 63, 64, 65, 66, 67] (fun a : Nat => m.entries.length - a) (fun a => a ≤ m.entries.length ∧ allGE (pEntD m) 0 m.entries = allGE (pEntD m) a (m.entries.drop a)) (fun a => [(3, I a)]) (fun a => []) 0 ⟨Nat.zero_le _, rfl⟩ (by exact Gh.W) ?_
      rintro k ⟨hk2, he⟩
      simp only [setT, deT, setB, List.set_cons_succ, List.set_cons_zero]
      by_cases hlt : k < m.entries.length
      · have hw : IntKind.i64.wrap ((k : Int) + 1) = ((k + 1 : Nat) : Int) := wrap_i64 (by omega) (by omega)
        rw [List.drop_eq_getElem_cons hlt, allGE] at he
        have h5 := dmayEntry_ac m.entries[k]
        repeat' (first
          | ((first
          | ((with_reducible apply AP.k_any); first
                  | refine AP.S ?_
                  | refine AP.E ?_
                  | (refine AP.Y ?_; dsimp only) | refine AP.G (fun hg => ?_) (fun hg => ?_)
                  | (refine AP.V (fun c hnil => ?_); simp only [nz])
                  | refine AP.A ?_ | refine AP.AB 0 ?_ | refine AP.AB 1 ?_ | refine AP.AL ?_
                  )
            | ((with_reducible apply DW.k_any); first
              | refine DW.R ?_ | refine DW.R' ?_ | refine DW.W ?_ | refine DW.W' ?_ | refine DW.A ?_ | refine DW.A' ?_ | ((fail_if_success refine DW.known rfl ?_); refine DW.G (fun hg => ?_) (fun hg => ?_))
              )
          ) <;> (try simp only [nx, Nat.reduceAdd, Nat.reduceSub, BEq.rfl]))
          | ((with_reducible apply AP.k_nil); first | (refine AP.nil (hQ' _ ?_); clear hQ' Q') | refine AP.nil ?_)
          | ((with_reducible apply CP.k_drw); refine cp_drwX fun Q' hQ' => ?_)
          | ((with_reducible apply CP.k_drw1); refine cp_drawX ?_)
          | ((with_reducible apply DW.k_nil); refine DW.nl ?_; first | (refine hQ' _ ?_; clear hQ' Q') | skip)
          | ((with_reducible apply CP.k_reg); refine cp_regG fun Q' hQ' => ?_)
            | (with_reducible apply CP.k_reg1; refine cp_region ?_)
            | ((with_reducible apply CP.k_cond); first | refine cp_condT rfl ?_ | refine cp_condF rfl ?_ | refine cp_cond rfl (fun hc => ?_) (fun hc => ?_))
            | refine CP.go ?_
            | (simp only [List.append_eq, List.cons_append, List.nil_append]))
        all_goals first
          | (exfalso; (repeat (rename AC _ _ _ _ _ => hzz; clear hzz)); simp at *; omega)
          | (refine RetQ.B [] ?_; (try dsimp only [resV, List.getD_cons_succ, List.getD_cons_zero]); ((refine ⟨congrArg B ?_, rfl⟩; (repeat (rename AC _ _ _ _ _ => hzz; clear hzz)); simp at *; simp [mayEntD, he, pEntD, *])))
          | (simp only [hw]; exact ⟨k + 1, by (first | omega | (dsimp only; omega)), ⟨by (first | omega | (dsimp only; omega)), by (rw [he]; (repeat (rename AC _ _ _ _ _ => hzz; clear hzz)); simp at *; simp [pEntD, *])⟩, by exact Gh.W⟩)
      · obtain rfl : k = m.entries.length := by omega
        rw [List.drop_length, allGE] at he
        repeat' (first
          | ((first
          | ((with_reducible apply AP.k_any); first
                  | refine AP.S ?_
                  | refine AP.E ?_
                  | (refine AP.Y ?_; dsimp only) | refine AP.G (fun hg => ?_) (fun hg => ?_)
                  | (refine AP.V (fun c hnil => ?_); simp only [nz])
                  | refine AP.A ?_ | refine AP.AB 0 ?_ | refine AP.AB 1 ?_ | refine AP.AL ?_
                  )
            | ((with_reducible apply DW.k_any); first
              | refine DW.R ?_ | refine DW.R' ?_ | refine DW.W ?_ | refine DW.W' ?_ | refine DW.A ?_ | refine DW.A' ?_ | ((fail_if_success refine DW.known rfl ?_); refine DW.G (fun hg => ?_) (fun hg => ?_))
              )
          ) <;> (try simp only [nx, Nat.reduceAdd, Nat.reduceSub, BEq.rfl]))
          | ((with_reducible apply AP.k_nil); first | (refine AP.nil (hQ' _ ?_); clear hQ' Q') | refine AP.nil ?_)
          | ((with_reducible apply CP.k_drw); refine cp_drwX fun Q' hQ' => ?_)
          | ((with_reducible apply CP.k_drw1); refine cp_drawX ?_)
          | ((with_reducible apply DW.k_nil); refine DW.nl ?_; first | (refine hQ' _ ?_; clear hQ' Q') | skip)
          | ((with_reducible apply CP.k_reg); refine cp_regG fun Q' hQ' => ?_)
            | (with_reducible apply CP.k_reg1; refine cp_region ?_)
            | ((with_reducible apply CP.k_cond); first | refine cp_condT rfl ?_ | refine cp_condF rfl ?_ | refine cp_cond rfl (fun hc => ?_) (fun hc => ?_))
            | refine CP.go ?_
            | (simp only [List.append_eq, List.cons_append, List.nil_append]))
        all_goals first
          | (exfalso; (repeat (rename AC _ _ _ _ _ => hzz; clear hzz)); simp at *; done)
          | (exfalso; (repeat (rename AC _ _ _ _ _ => hzz; clear hzz)); simp at *; omega)
          | (refine RetQ.B [] ?_; (try dsimp only [resV, List.getD_cons_succ, List.getD_cons_zero]); ((refine ⟨congrArg B ?_, rfl⟩; (repeat (rename AC _ _ _ _ _ => hzz; clear hzz)); simp at *; simp [mayEntD, he]; omega)))
    all_goals
      have hk' := congrArg Int.ofNat hk
      simp only [Int.ofNat_eq_natCast] at hk'
      unfold kindD; simp only [hk]
      refine AC.N Try.func22 Try.ntmps22 ?_
      intro X
      simp only [nx, Nat.reduceAdd, Nat.reduceSub, BEq.rfl]
      simp only [hk', eG, U] at h1 h2 ⊢
      repeat' (first
        | ((first
        | ((with_reducible apply AP.k_any); first
                | refine AP.S ?_
                | refine AP.E ?_
                | (refine AP.Y ?_; dsimp only) | refine AP.G (fun hg => ?_) (fun hg => ?_)
                | (refine AP.V (fun c hnil => ?_); simp only [nz])
                | refine AP.A ?_ | refine AP.AB 0 ?_ | refine AP.AB 1 ?_ | refine AP.AL ?_
                )
          | ((with_reducible apply DW.k_any); first
            | refine DW.R ?_ | refine DW.R' ?_ | refine DW.W ?_ | refine DW.W' ?_ | refine DW.A ?_ | refine DW.A' ?_ | ((fail_if_success refine DW.known rfl ?_); refine DW.G (fun hg => ?_) (fun hg => ?_))
            )
        ) <;> (try simp only [nx, Nat.reduceAdd, Nat.reduceSub, BEq.rfl]))
        | ((with_reducible apply AP.k_nil); first | (refine AP.nil (hQ' _ ?_); clear hQ' Q') | refine AP.nil ?_)
        | ((with_reducible apply CP.k_drw); refine cp_drwX fun Q' hQ' => ?_)
        | ((with_reducible apply CP.k_drw1); refine cp_drawX ?_)
        | ((with_reducible apply DW.k_nil); refine DW.nl ?_; first | (refine hQ' _ ?_; clear hQ' Q') | skip)
        | ((with_reducible apply CP.k_reg); refine cp_regG fun Q' hQ' => ?_)
          | (with_reducible apply CP.k_reg1; refine cp_region ?_)
          | ((with_reducible apply CP.k_cond); first | refine cp_condT rfl ?_ | refine cp_condF rfl ?_ | refine cp_cond rfl (fun hc => ?_) (fun hc => ?_))
          | refine CP.go ?_
          | (simp only [List.append_eq, List.cons_append, List.nil_append]))
      all_goals (refine RetQ.B [] ?_; (try dsimp only [resV, List.getD_cons_succ, List.getD_cons_zero]); ((refine ⟨congrArg B ?_, rfl⟩; (repeat (rename AC _ _ _ _ _ => hzz; clear hzz)); simp at * <;> (try simp [mayAsk, mayHave, mayWhole, *]) <;> (try omega))))
end Go.Proofs.Ytpdegeknhapgmaa

namespace Go.Proofs.Ytpdegeknhapgmaa
set_option linter.unusedVariables false
set_option linter.unusedSimpArgs false
set_option maxHeartbeats 8000000
open Go.RowKit
set_option maxRecDepth 100000
theorem fold_len : ∀ l : List Entry, ((l.map restF).flatten).length ≤ 28 * l.length + (l.map fun e => e.body.length).sum
  | [] => by simp
  | e :: l => by have := fold_len l; simp [restF_length] at *; omega
theorem dform_ac (m : Msg) (hs : m.small) (hsum : m.entries.length ≤ 1000000 ∧ ∀ e ∈ m.entries, e.body.length ≤ 1000000) (hE : (m.entries.map fun e => e.body.length).sum ≤ 1000000) (hb : m.body.length ≤ 1000000) (hc : m.cfg.members.length ≤ 1000000) : AC Try.prog 25 [.ag (eG m)] [] (fun v bs' => v = bs (some tU) (formM m) ∧ bs' = []) := by
  unfold formM fieldF
  have h3 := (dbytes_ac m.body (by omega)).ro (r2 := bs none (putS m.body.length 4 ++ m.body)) (by simp only [AV.ro, ro_B])
  have h4 := (dconfig_ac m.cfg hc).ro (r2 := bs none (configF m.cfg)) (by simp only [AV.ro, ro_B])
  rcases kind_cases m.kind with hk | hk | hk | hk | hk | hk | hk
  case inr.inl =>
    have hk' := congrArg Int.ofNat hk
    simp only [Int.ofNat_eq_natCast] at hk'
    simp only [hk, entF]
    have h1 := numbers_ac [m.upto, m.frm, m.entries.length] (by simp)
    have l1 : (numS [m.upto, m.frm, (m.entries.length : Int)]).length = 24 := by simp [numS_length]
    refine AC.N Try.func25 Try.ntmps25 ?_
    intro X
    simp only [nx, Nat.reduceAdd, Nat.reduceSub, BEq.rfl]
    simp only [hk', eG, U]
    refine CP.gh gh_slot ?_; simp only [nx, Nat.reduceAdd, Nat.reduceSub, BEq.rfl]
    refine CP.gh gh_slot ?_; simp only [nx, Nat.reduceAdd, Nat.reduceSub, BEq.rfl]
    refine CP.gh gh_slot ?_; simp only [nx, Nat.reduceAdd, Nat.reduceSub, BEq.rfl]
    repeat' (first
      | ((first
      | ((with_reducible apply AP.k_any); first
              | refine AP.S ?_
              | refine AP.E ?_
              | (refine AP.V (fun c hnil => ?_); simp only [nz])
              | refine AP.A ?_ | refine AP.AB 0 ?_ | refine AP.AB 1 ?_ | refine AP.AL ?_
              )
      ) <;> (try simp only [nx, Nat.reduceAdd, Nat.reduceSub, BEq.rfl]))
      | ((with_reducible apply AP.k_nil); first | (refine AP.nil (hQ' _ ?_); clear hQ' Q') | refine AP.nil ?_)
      | ((with_reducible apply CP.k_reg); refine cp_regG fun Q' hQ' => ?_)
        | (with_reducible apply CP.k_reg1; refine cp_region ?_)
        | ((with_reducible apply CP.k_cond); first | refine cp_condT rfl ?_ | refine cp_condF rfl ?_ | refine cp_cond rfl (fun hc => ?_) (fun hc => ?_))
        | refine CP.go ?_
        | (simp only [List.append_eq, List.cons_append, List.nil_append]))
    have hr : ∀ l : List Entry, (∀ e ∈ l, e.body.length ≤ 1000000) → l.length ≤ 1000000 → ((l.map restF).flatten).length ≤ 28 * l.length + (l.map fun e => e.body.length).sum := fun l _ _ => fold_len l
    have ht : ∀ i, ((m.entries.take i).map fun e => e.body.length).sum ≤ 1000000 := fun i => by
      have h : (m.entries.map fun e => e.body.length).sum = ((m.entries.take i).map fun e => e.body.length).sum + ((m.entries.drop i).map fun e => e.body.length).sum := by
        rw [← List.sum_append, ← List.map_append, List.take_append_drop]
      omega
    refine cp_loopS [3, 4, 39, 40, 41, 42, 43, 44, 45, 46, 47, 48, 49, 50, 51, 52, 53] (fun a : Nat × Nat × Nat => m.entries.length - a.1) (fun a => a.1 ≤ m.entries.length) (fun a => [(4, I a.1), (3, .hd 1 a.2.1)]) (fun a => [(1, ⟨a.2.1, .r tU 1 ([.sc (.int .u8 ((2 : Nat) : Int))] :: (numS [m.upto, m.frm, (m.entries.length : Int)] ++ ((m.entries.take a.1).map restF).flatten).map eB)⟩), (3, ⟨a.2.2, .x⟩)]) (0, 2, 1) (Nat.zero_le _) (by (simp only [List.take_zero, List.map_nil, List.flatten_nil, List.append_nil]); exact Gh.W) ?_
    rintro ⟨i, u, v⟩ hi
    simp only [setT, deT, setB, List.set_cons_succ, List.set_cons_zero]
    dsimp only at hi
    by_cases hlt : i < m.entries.length
    · have hw : IntKind.i64.wrap ((i : Int) + 1) = ((i + 1 : Nat) : Int) := wrap_i64 (by omega) (by omega)
      have hbe := hsum.2 _ (List.getElem_mem hlt)
      have h2 := drest_ac m.entries[i] (by omega)
      have hstep : numS [m.upto, m.frm, (m.entries.length : Int)] ++ ((m.entries.take (i + 1)).map restF).flatten = numS [m.upto, m.frm, (m.entries.length : Int)] ++ ((m.entries.take i).map restF).flatten ++ restF m.entries[i] := by
        rw [List.take_succ_eq_append_getElem hlt, List.map_append, List.flatten_append]
        simp
      have hn : (numS [m.upto, m.frm, (m.entries.length : Int)] ++ ((m.entries.take i).map restF).flatten).length ≤ 300000000 := by
        have := fold_len (m.entries.take i)
        have h3 := ht i
        rw [List.length_append, l1]
        rw [List.length_take] at this; omega
      generalize hA : numS [m.upto, m.frm, (m.entries.length : Int)] ++ ((m.entries.take i).map restF).flatten = A at hn hstep ⊢
      have hl : ([AV.sc (.int .u8 ((2 : Nat) : Int))] :: A.map eB).length + ((restF m.entries[i]).map eB).length ≤ 1000000000 := by
        simp only [List.length_cons, List.length_map, restF_length]; omega
      repeat' (first
        | ((first
        | ((with_reducible apply AP.k_any); first
                | refine AP.S ?_
                | refine AP.E ?_
                | (refine AP.V (fun c hnil => ?_); simp only [nz])
                | refine AP.A ?_ | refine AP.AB 0 ?_ | refine AP.AB 1 ?_ | refine AP.AL ?_
                )
        ) <;> (try simp only [nx, Nat.reduceAdd, Nat.reduceSub, BEq.rfl]))
        | ((with_reducible apply AP.k_nil); first | (refine AP.nil (hQ' _ ?_); clear hQ' Q') | refine AP.nil ?_)
        | ((with_reducible apply CP.k_reg); refine cp_regG fun Q' hQ' => ?_)
          | (with_reducible apply CP.k_reg1; refine cp_region ?_)
          | ((with_reducible apply CP.k_cond); first | refine cp_condT rfl ?_ | refine cp_condF rfl ?_ | refine cp_cond rfl (fun hc => ?_) (fun hc => ?_))
          | refine CP.go ?_
          | (simp only [List.append_eq, List.cons_append, List.nil_append]))
      · simp only [hw]
        exact ⟨(i + 1, u + 1, v + 1), by (first | omega | (dsimp only; omega)), by (first | omega | (dsimp only; omega)), by (dsimp only; rw [hstep, List.map_append (l₁ := A)]; exact Gh.W)⟩
      · exfalso; (repeat (rename AC _ _ _ _ _ => hzz; clear hzz)); simp at *; omega
    · obtain rfl : i = m.entries.length := by omega
      rw [List.take_length]
      repeat' (first
        | ((first
        | ((with_reducible apply AP.k_any); first
                | refine AP.S ?_
                | refine AP.E ?_
                | (refine AP.V (fun c hnil => ?_); simp only [nz])
                | refine AP.A ?_ | refine AP.AB 0 ?_ | refine AP.AB 1 ?_ | refine AP.AL ?_
                )
        ) <;> (try simp only [nx, Nat.reduceAdd, Nat.reduceSub, BEq.rfl]))
        | ((with_reducible apply AP.k_nil); first | (refine AP.nil (hQ' _ ?_); clear hQ' Q') | refine AP.nil ?_)
        | ((with_reducible apply CP.k_reg); refine cp_regG fun Q' hQ' => ?_)
          | (with_reducible apply CP.k_reg1; refine cp_region ?_)
          | ((with_reducible apply CP.k_cond); first | refine cp_condT rfl ?_ | refine cp_condF rfl ?_ | refine cp_cond rfl (fun hc => ?_) (fun hc => ?_))
          | refine CP.go ?_
          | (simp only [List.append_eq, List.cons_append, List.nil_append]))
      · exfalso; (repeat (rename AC _ _ _ _ _ => hzz; clear hzz)); simp at *
      · (refine RetQ.B [] ?_; (try dsimp only [resV, List.getD_cons_succ, List.getD_cons_zero]); (exact ⟨by simp [eB, U, hk], rfl⟩))
  case inr.inr.inr.inr.inr.inr =>
    have e : fieldF m = [] := by unfold fieldF; split <;> first | omega | rfl
    unfold fieldF at e
    rw [e]
    refine AC.N Try.func25 Try.ntmps25 ?_
    intro X
    simp only [nx, Nat.reduceAdd, Nat.reduceSub, BEq.rfl]
    repeat' (first
      | ((first
      | ((with_reducible apply AP.k_any); first
              | refine AP.S ?_
              | refine AP.E ?_
              | (refine AP.V (fun c hnil => ?_); simp only [nz])
              | refine AP.A ?_ | refine AP.AB 0 ?_ | refine AP.AB 1 ?_ | refine AP.AL ?_
              )
      ) <;> (try simp only [nx, Nat.reduceAdd, Nat.reduceSub, BEq.rfl]))
      | ((with_reducible apply AP.k_nil); first | (refine AP.nil (hQ' _ ?_); clear hQ' Q') | refine AP.nil ?_)
      | ((with_reducible apply CP.k_reg); refine cp_regG fun Q' hQ' => ?_)
        | (with_reducible apply CP.k_reg1; refine cp_region ?_)
        | ((with_reducible apply CP.k_cond); first | refine cp_condT rfl ?_ | refine cp_condF rfl ?_ | refine cp_cond rfl (fun hc => ?_) (fun hc => ?_))
        | refine CP.go ?_
        | (simp only [List.append_eq, List.cons_append, List.nil_append]))
    all_goals try (exfalso; (repeat (rename AC _ _ _ _ _ => hzz; clear hzz)); simp at *; omega)
    (refine RetQ.B [] ?_; (try dsimp only [resV, List.getD_cons_succ, List.getD_cons_zero]); (exact ⟨rfl, rfl⟩))
  case inl =>
    have hk' := congrArg Int.ofNat hk
    simp only [Int.ofNat_eq_natCast] at hk'
    simp only [hk, askF]
    have h1 := numbers_ac [m.client, m.id] (by simp)
    have l1 : (numS [m.client, m.id]).length ≤ 16 := by simp [numS_length]
    have g3 : (putS m.body.length 4).length = 4 := by simp [putS_length]
    have g4 : (configF m.cfg).length ≤ 17000016 := by rw [configF_length]; omega
    refine AC.N Try.func25 Try.ntmps25 ?_
    intro X
    simp only [nx, Nat.reduceAdd, Nat.reduceSub, BEq.rfl]
    simp only [hk', eG, U]
    refine CP.gh gh_slot ?_; simp only [nx, Nat.reduceAdd, Nat.reduceSub, BEq.rfl]
    refine CP.gh gh_slot ?_; simp only [nx, Nat.reduceAdd, Nat.reduceSub, BEq.rfl]
    refine CP.gh gh_slot ?_; simp only [nx, Nat.reduceAdd, Nat.reduceSub, BEq.rfl]
    repeat' (first
      | ((first
      | ((with_reducible apply AP.k_any); first
              | refine AP.S ?_
              | refine AP.E ?_
              | (refine AP.V (fun c hnil => ?_); simp only [nz])
              | refine AP.A ?_ | refine AP.AB 0 ?_ | refine AP.AB 1 ?_ | refine AP.AL ?_
              )
      ) <;> (try simp only [nx, Nat.reduceAdd, Nat.reduceSub, BEq.rfl]))
      | ((with_reducible apply AP.k_nil); first | (refine AP.nil (hQ' _ ?_); clear hQ' Q') | refine AP.nil ?_)
      | ((with_reducible apply CP.k_reg); refine cp_regG fun Q' hQ' => ?_)
        | (with_reducible apply CP.k_reg1; refine cp_region ?_)
        | ((with_reducible apply CP.k_cond); first | refine cp_condT rfl ?_ | refine cp_condF rfl ?_ | refine cp_cond rfl (fun hc => ?_) (fun hc => ?_))
        | refine CP.go ?_
        | (simp only [List.append_eq, List.cons_append, List.nil_append]))
    (refine RetQ.B [] ?_; (try dsimp only [resV, List.getD_cons_succ, List.getD_cons_zero]); (exact ⟨by simp [eB, U, hk], rfl⟩))
  case inr.inr.inl =>
    have hk' := congrArg Int.ofNat hk
    simp only [Int.ofNat_eq_natCast] at hk'
    simp only [hk, askF]
    have h1 := numbers_ac [m.have_, m.done] (by simp)
    have l1 : (numS [m.have_, m.done]).length ≤ 16 := by simp [numS_length]
    have g3 : (putS m.body.length 4).length = 4 := by simp [putS_length]
    have g4 : (configF m.cfg).length ≤ 17000016 := by rw [configF_length]; omega
    refine AC.N Try.func25 Try.ntmps25 ?_
    intro X
    simp only [nx, Nat.reduceAdd, Nat.reduceSub, BEq.rfl]
    simp only [hk', eG, U]
    refine CP.gh gh_slot ?_; simp only [nx, Nat.reduceAdd, Nat.reduceSub, BEq.rfl]
    refine CP.gh gh_slot ?_; simp only [nx, Nat.reduceAdd, Nat.reduceSub, BEq.rfl]
    refine CP.gh gh_slot ?_; simp only [nx, Nat.reduceAdd, Nat.reduceSub, BEq.rfl]
    repeat' (first
      | ((first
      | ((with_reducible apply AP.k_any); first
              | refine AP.S ?_
              | refine AP.E ?_
              | (refine AP.V (fun c hnil => ?_); simp only [nz])
              | refine AP.A ?_ | refine AP.AB 0 ?_ | refine AP.AB 1 ?_ | refine AP.AL ?_
              )
      ) <;> (try simp only [nx, Nat.reduceAdd, Nat.reduceSub, BEq.rfl]))
      | ((with_reducible apply AP.k_nil); first | (refine AP.nil (hQ' _ ?_); clear hQ' Q') | refine AP.nil ?_)
      | ((with_reducible apply CP.k_reg); refine cp_regG fun Q' hQ' => ?_)
        | (with_reducible apply CP.k_reg1; refine cp_region ?_)
        | ((with_reducible apply CP.k_cond); first | refine cp_condT rfl ?_ | refine cp_condF rfl ?_ | refine cp_cond rfl (fun hc => ?_) (fun hc => ?_))
        | refine CP.go ?_
        | (simp only [List.append_eq, List.cons_append, List.nil_append]))
    (refine RetQ.B [] ?_; (try dsimp only [resV, List.getD_cons_succ, List.getD_cons_zero]); (exact ⟨by simp [eB, U, hk], rfl⟩))
  case inr.inr.inr.inl =>
    have hk' := congrArg Int.ofNat hk
    simp only [Int.ofNat_eq_natCast] at hk'
    simp only [hk, askF]
    have g3 : (putS m.body.length 4).length = 4 := by simp [putS_length]
    have g4 : (configF m.cfg).length ≤ 17000016 := by rw [configF_length]; omega
    refine AC.N Try.func25 Try.ntmps25 ?_
    intro X
    simp only [nx, Nat.reduceAdd, Nat.reduceSub, BEq.rfl]
    simp only [hk', eG, U]
    refine CP.gh gh_slot ?_; simp only [nx, Nat.reduceAdd, Nat.reduceSub, BEq.rfl]
    refine CP.gh gh_slot ?_; simp only [nx, Nat.reduceAdd, Nat.reduceSub, BEq.rfl]
    refine CP.gh gh_slot ?_; simp only [nx, Nat.reduceAdd, Nat.reduceSub, BEq.rfl]
    repeat' (first
      | ((first
      | ((with_reducible apply AP.k_any); first
              | refine AP.S ?_
              | refine AP.E ?_
              | (refine AP.V (fun c hnil => ?_); simp only [nz])
              | refine AP.A ?_ | refine AP.AB 0 ?_ | refine AP.AB 1 ?_ | refine AP.AL ?_
              )
      ) <;> (try simp only [nx, Nat.reduceAdd, Nat.reduceSub, BEq.rfl]))
      | ((with_reducible apply AP.k_nil); first | (refine AP.nil (hQ' _ ?_); clear hQ' Q') | refine AP.nil ?_)
      | ((with_reducible apply CP.k_reg); refine cp_regG fun Q' hQ' => ?_)
        | (with_reducible apply CP.k_reg1; refine cp_region ?_)
        | ((with_reducible apply CP.k_cond); first | refine cp_condT rfl ?_ | refine cp_condF rfl ?_ | refine cp_cond rfl (fun hc => ?_) (fun hc => ?_))
        | refine CP.go ?_
        | (simp only [List.append_eq, List.cons_append, List.nil_append]))
    (refine RetQ.B [] ?_; (try dsimp only [resV, List.getD_cons_succ, List.getD_cons_zero]); (exact ⟨by simp [eB, U, hk], rfl⟩))
  case inr.inr.inr.inr.inl =>
    have hk' := congrArg Int.ofNat hk
    simp only [Int.ofNat_eq_natCast] at hk'
    simp only [hk, askF]
    have h1 := numbers_ac [m.since] (by simp)
    have l1 : (numS [m.since]).length ≤ 16 := by simp [numS_length]
    have g3 : (putS m.body.length 4).length = 4 := by simp [putS_length]
    have g4 : (configF m.cfg).length ≤ 17000016 := by rw [configF_length]; omega
    refine AC.N Try.func25 Try.ntmps25 ?_
    intro X
    simp only [nx, Nat.reduceAdd, Nat.reduceSub, BEq.rfl]
    simp only [hk', eG, U]
    refine CP.gh gh_slot ?_; simp only [nx, Nat.reduceAdd, Nat.reduceSub, BEq.rfl]
    refine CP.gh gh_slot ?_; simp only [nx, Nat.reduceAdd, Nat.reduceSub, BEq.rfl]
    refine CP.gh gh_slot ?_; simp only [nx, Nat.reduceAdd, Nat.reduceSub, BEq.rfl]
    repeat' (first
      | ((first
      | ((with_reducible apply AP.k_any); first
              | refine AP.S ?_
              | refine AP.E ?_
              | (refine AP.V (fun c hnil => ?_); simp only [nz])
              | refine AP.A ?_ | refine AP.AB 0 ?_ | refine AP.AB 1 ?_ | refine AP.AL ?_
              )
      ) <;> (try simp only [nx, Nat.reduceAdd, Nat.reduceSub, BEq.rfl]))
      | ((with_reducible apply AP.k_nil); first | (refine AP.nil (hQ' _ ?_); clear hQ' Q') | refine AP.nil ?_)
      | ((with_reducible apply CP.k_reg); refine cp_regG fun Q' hQ' => ?_)
        | (with_reducible apply CP.k_reg1; refine cp_region ?_)
        | ((with_reducible apply CP.k_cond); first | refine cp_condT rfl ?_ | refine cp_condF rfl ?_ | refine cp_cond rfl (fun hc => ?_) (fun hc => ?_))
        | refine CP.go ?_
        | (simp only [List.append_eq, List.cons_append, List.nil_append]))
    (refine RetQ.B [] ?_; (try dsimp only [resV, List.getD_cons_succ, List.getD_cons_zero]); (exact ⟨by simp [eB, U, hk], rfl⟩))
  case inr.inr.inr.inr.inr.inl =>
    have hk' := congrArg Int.ofNat hk
    simp only [Int.ofNat_eq_natCast] at hk'
    simp only [hk, askF]
    have h1 := numbers_ac [m.client, m.id] (by simp)
    have l1 : (numS [m.client, m.id]).length ≤ 16 := by simp [numS_length]
    have g3 : (putS m.body.length 4).length = 4 := by simp [putS_length]
    have g4 : (configF m.cfg).length ≤ 17000016 := by rw [configF_length]; omega
    refine AC.N Try.func25 Try.ntmps25 ?_
    intro X
    simp only [nx, Nat.reduceAdd, Nat.reduceSub, BEq.rfl]
    simp only [hk', eG, U]
    refine CP.gh gh_slot ?_; simp only [nx, Nat.reduceAdd, Nat.reduceSub, BEq.rfl]
    refine CP.gh gh_slot ?_; simp only [nx, Nat.reduceAdd, Nat.reduceSub, BEq.rfl]
    refine CP.gh gh_slot ?_; simp only [nx, Nat.reduceAdd, Nat.reduceSub, BEq.rfl]
    repeat' (first
      | ((first
      | ((with_reducible apply AP.k_any); first
              | refine AP.S ?_
              | refine AP.E ?_
              | (refine AP.V (fun c hnil => ?_); simp only [nz])
              | refine AP.A ?_ | refine AP.AB 0 ?_ | refine AP.AB 1 ?_ | refine AP.AL ?_
              )
      ) <;> (try simp only [nx, Nat.reduceAdd, Nat.reduceSub, BEq.rfl]))
      | ((with_reducible apply AP.k_nil); first | (refine AP.nil (hQ' _ ?_); clear hQ' Q') | refine AP.nil ?_)
      | ((with_reducible apply CP.k_reg); refine cp_regG fun Q' hQ' => ?_)
        | (with_reducible apply CP.k_reg1; refine cp_region ?_)
        | ((with_reducible apply CP.k_cond); first | refine cp_condT rfl ?_ | refine cp_condF rfl ?_ | refine cp_cond rfl (fun hc => ?_) (fun hc => ?_))
        | refine CP.go ?_
        | (simp only [List.append_eq, List.cons_append, List.nil_append]))
    (refine RetQ.B [] ?_; (try dsimp only [resV, List.getD_cons_succ, List.getD_cons_zero]); (exact ⟨by simp [eB, U, hk], rfl⟩))
end Go.Proofs.Ytpdegeknhapgmaa

namespace Go.Proofs.Ytpdegeknhapgmaa
set_option linter.unusedVariables false
set_option linter.unusedSimpArgs false
set_option maxHeartbeats 8000000
open Go.RowKit
set_option maxRecDepth 100000
def growS : Nat → List Entry → Bool
  | n, [] => decide (25000 < n)
  | n, e :: l => if 25000 < n + e.body.length + 50 then true else growS (n + e.body.length + 50) l
def greatS (m : Msg) : Bool := growS m.body.length m.entries || decide (50 < m.cfg.members.length)
theorem great_ac (m : Msg) (hs : m.small) : AC Try.prog 21 [.ag (eG m)] [] (fun v bs => v = B (greatS m) ∧ bs = []) := by
  obtain ⟨hb, he, hc, hb2⟩ := hs
  refine AC.N Try.func21 Try.ntmps21 ?_
  intro X
  simp only [nx, Nat.reduceAdd, Nat.reduceSub, BEq.rfl]
  repeat' (first
    | ((first
    | ((with_reducible apply AP.k_any); first
             | refine AP.S ?_
             | refine AP.E ?_
             | (refine AP.Y ?_; dsimp only) | refine AP.G (fun hg => ?_) (fun hg => ?_)
      )
    
    )
      <;> (try simp only [nx, Nat.reduceAdd, Nat.reduceSub, BEq.rfl]))
    | ((with_reducible apply AP.k_nil); first
        | (refine AP.nil (hQ' _ ?_); clear hQ' Q')
        | refine AP.nil ?_)
    | ((with_reducible apply CP.k_reg); refine cp_regG fun Q' hQ' => ?_)
      | (with_reducible apply CP.k_reg1; refine cp_region ?_)
      | ((with_reducible apply CP.k_cond); first | refine cp_condT rfl ?_ | refine cp_condF rfl ?_ | refine cp_cond rfl (fun hc => ?_) (fun hc => ?_))
      | refine CP.go ?_
      | (simp only [List.append_eq, List.cons_append, List.nil_append]))
  refine cp_loopS [2, 3, 4, 8, 9, 10, 11, 12, 13, 14, 15, 16, 17, 18, 19, 20, 21, 22, 23, 24, 25, 26] (fun a : Nat × Nat => m.entries.length - a.1) (fun a => a.1 ≤ m.entries.length ∧ a.2 ≤ 100000000 ∧ growS m.body.length m.entries = growS a.2 (m.entries.drop a.1)) (fun a => [(4, I a.1), (3, I a.2)]) (fun a => []) (0, m.body.length) ⟨Nat.zero_le _, hb, rfl⟩ (by exact Gh.W) ?_
  rintro ⟨k, n⟩ ⟨hk, hn, hgr⟩
  simp only [setT, deT, setB, List.set_cons_succ, List.set_cons_zero]
  dsimp only at hk hn hgr
  by_cases hlt : k < m.entries.length
  · have hw : IntKind.i64.wrap ((k : Int) + 1) = ((k + 1 : Nat) : Int) := wrap_i64 (by omega) (by omega)
    have hbk := hb2 _ (List.getElem_mem hlt)
    have hw1 : IntKind.i64.wrap ((n : Int) + (m.entries[k].body.length : Int)) = ((n + m.entries[k].body.length : Nat) : Int) := wrap_i64 (by omega) (by omega)
    have hw2 : IntKind.i64.wrap (((n + m.entries[k].body.length : Nat) : Int) + 50) = ((n + m.entries[k].body.length + 50 : Nat) : Int) := wrap_i64 (by omega) (by omega)
    rw [List.drop_eq_getElem_cons hlt, growS] at hgr
    repeat' (first
      | ((first
      | ((with_reducible apply AP.k_any); first
               | refine AP.S ?_
               | refine AP.E ?_
               | (refine AP.Y ?_; dsimp only) | refine AP.G (fun hg => ?_) (fun hg => ?_)
        )
      
      )
        <;> (try simp only [nx, Nat.reduceAdd, Nat.reduceSub, BEq.rfl]))
      | ((with_reducible apply AP.k_nil); first
          | (refine AP.nil (hQ' _ ?_); clear hQ' Q')
          | refine AP.nil ?_)
      | ((with_reducible apply CP.k_reg); refine cp_regG fun Q' hQ' => ?_)
        | (with_reducible apply CP.k_reg1; refine cp_region ?_)
        | ((with_reducible apply CP.k_cond); first | refine cp_condT rfl ?_ | refine cp_condF rfl ?_ | refine cp_cond rfl (fun hc => ?_) (fun hc => ?_))
        | refine CP.go ?_
        | (simp only [List.append_eq, List.cons_append, List.nil_append]))
    · have h25 : 25000 < n + m.entries[k].body.length + 50 := by simp [hw1, hw2] at *; omega
      rw [if_pos h25] at hgr
      (refine RetQ.B [] ?_; (try dsimp only [resV, List.getD_cons_succ, List.getD_cons_zero]); (exact ⟨by simp [greatS, hgr], rfl⟩))
    · have h25 : ¬ 25000 < n + m.entries[k].body.length + 50 := by simp [hw1, hw2] at *; omega
      rw [if_neg h25] at hgr
      simp only [hw, hw1, hw2]
      exact ⟨(k + 1, n + m.entries[k].body.length + 50), by (dsimp only; omega), ⟨by (dsimp only; omega), by (dsimp only; omega), hgr⟩, by exact Gh.W⟩
    all_goals (exfalso; simp at *; omega)
  · obtain rfl : k = m.entries.length := by omega
    rw [List.drop_length, growS] at hgr
    repeat' (first
      | ((first
      | ((with_reducible apply AP.k_any); first
               | refine AP.S ?_
               | refine AP.E ?_
               | (refine AP.Y ?_; dsimp only) | refine AP.G (fun hg => ?_) (fun hg => ?_)
        )
      
      )
        <;> (try simp only [nx, Nat.reduceAdd, Nat.reduceSub, BEq.rfl]))
      | ((with_reducible apply AP.k_nil); first
          | (refine AP.nil (hQ' _ ?_); clear hQ' Q')
          | refine AP.nil ?_)
      | ((with_reducible apply CP.k_reg); refine cp_regG fun Q' hQ' => ?_)
        | (with_reducible apply CP.k_reg1; refine cp_region ?_)
        | ((with_reducible apply CP.k_cond); first | refine cp_condT rfl ?_ | refine cp_condF rfl ?_ | refine cp_cond rfl (fun hc => ?_) (fun hc => ?_))
        | refine CP.go ?_
        | (simp only [List.append_eq, List.cons_append, List.nil_append]))
    all_goals first
      | (exfalso; simp at *; done)
      | (exfalso; simp at *; omega)
      | (refine RetQ.B [] ?_; (try dsimp only [resV, List.getD_cons_succ, List.getD_cons_zero]); ((refine ⟨?_, rfl⟩; simp at *; simp [greatS, *] <;> first | omega | (simp only [decide_eq_decide]; omega) | (rw [Bool.eq_iff_iff]; simp; omega))))
end Go.Proofs.Ytpdegeknhapgmaa

namespace Go.Proofs.Ytpdegeknhapgmaa
set_option linter.unusedVariables false
set_option linter.unusedSimpArgs false
open Go.RowKit Go.ChangeShapes Go.WideShapes Go.ChangeAt Go.Deep
set_option maxRecDepth 100000
theorem om : OA Try.prog 70 3 (fun _ m => I64 m.node ∧ I64 m.since) eM :=
  (oa_struct Try.underlying70 (by kernel_rfl) (of_cons rfl oi (of_cons rfl oi (of_cons rfl obl of_nil)))).map (fun d => ⟨d.1, d.2.1, d.2.2.1⟩) (fun _ _ _ _ h => h) (fun _ _ h => ⟨h.1, h.2.1⟩) fun _ => rfl
theorem oms : OA Try.prog 25 1 (fun N (l : List Member) => (∀ m ∈ l, I64 m.node ∧ I64 m.since) ∧ l.length < N) (fun l => [ms none l]) := oa_slice (by decide) Try.underlying25 (by kernel_rfl) om
def okC (N : Nat) (c : Config) : Prop := I64 c.epoch ∧ (∀ m ∈ c.members, I64 m.node ∧ I64 m.since) ∧ c.members.length < N
theorem okC.up {m n : Nat} {c : Config} (h : m ≤ n) (k : okC m c) : okC n c := ⟨k.1, k.2.1, Nat.lt_of_lt_of_le k.2.2 h⟩
theorem ocf : OA Try.prog 27 2 okC (eC none) :=
  (oa_struct Try.underlying27 (by kernel_rfl) (of_cons rfl oi (of_cons rfl oms of_nil))).map (fun d => ⟨d.1, d.2.1⟩) (fun _ _ _ => okC.up) (fun _ _ h => ⟨h.1, h.2.1.1, h.2.1.2⟩) fun _ => rfl
def okE (N : Nat) (e : Entry) : Prop := I64 e.pos ∧ I64 e.stamp ∧ I64 e.client ∧ I64 e.id ∧ e.body.length < N
theorem okE.up {m n : Nat} {e : Entry} (h : m ≤ n) (k : okE m e) : okE n e := ⟨k.1, k.2.1, k.2.2.1, k.2.2.2.1, Nat.lt_of_lt_of_le k.2.2.2.2 h⟩
theorem oen : OA Try.prog 24 5 okE (eE none) :=
  (oa_struct Try.underlying24 (by kernel_rfl) (of_cons rfl oi (of_cons rfl oi (of_cons rfl oi (of_cons rfl oi (of_cons rfl obs of_nil)))))).map (fun d => ⟨d.1, d.2.1, d.2.2.1, d.2.2.2.1, d.2.2.2.2.1⟩) (fun _ _ _ => okE.up) (fun _ _ h => ⟨h.1, h.2.1, h.2.2.1, h.2.2.2.1, h.2.2.2.2.1.2⟩) fun _ => rfl
end Go.Proofs.Ytpdegeknhapgmaa

namespace Go.Proofs.Ytpdegeknhapgmaa
set_option linter.unusedVariables false
set_option linter.unusedSimpArgs false
open Go.RowKit Go.ChangeShapes Go.WideShapes Go.ChangeAt Go.Deep
set_option maxRecDepth 100000
theorem oens : OA Try.prog 41 1 (fun N (l : List Entry) => (∀ e ∈ l, okE N e) ∧ l.length < N) (fun l => [es none none l]) := oa_slice (by decide) Try.underlying41 (by kernel_rfl) oen
def okG (N : Nat) (m : Msg) : Prop := rng m ∧ m.body.length < N ∧ m.entries.length < N ∧ m.cfg.members.length < N ∧ ∀ e ∈ m.entries, e.body.length < N
theorem okG.up {m n : Nat} {x : Msg} (h : m ≤ n) (k : okG m x) : okG n x := ⟨k.1, by have := k.2.1; omega, by have := k.2.2.1; omega, by have := k.2.2.2.1; omega, fun e he => by have := k.2.2.2.2 e he; omega⟩
theorem omg : OA Try.prog 43 12 okG eG :=
  (oa_struct Try.underlying43 (by kernel_rfl) (of_cons rfl ou (of_cons rfl oi (of_cons rfl oi (of_cons rfl obs (of_cons rfl oi (of_cons rfl oi (of_cons rfl oens (of_cons rfl oi (of_cons rfl oi (of_cons rfl ocf (of_cons rfl oi of_nil)))))))))))).map
    (fun d => ⟨d.1, d.2.1, d.2.2.1, d.2.2.2.1, d.2.2.2.2.1, d.2.2.2.2.2.1, d.2.2.2.2.2.2.1, d.2.2.2.2.2.2.2.1, d.2.2.2.2.2.2.2.2.1, d.2.2.2.2.2.2.2.2.2.1, d.2.2.2.2.2.2.2.2.2.2.1⟩) (fun _ _ _ => okG.up)
    (fun n d h => by
      obtain ⟨_, h1, h2, h3, h4, h5, h6, h7, h8, h9, h10, _⟩ := h
      exact ⟨⟨⟨h1, h2, h4, h5, h7, h8, h10⟩, ⟨h9.1, fun x hx => h9.2.1 x hx⟩, fun e he => by have := h6.1 e he; exact ⟨this.1, this.2.1, this.2.2.1, this.2.2.2.1⟩⟩, h3.2, h6.2, h9.2.2, fun e he => (h6.1 e he).2.2.2.2⟩) fun _ => rfl
theorem okG.small {n : Nat} {m : Msg} (h : okG n m) (hn : n ≤ 10000000) : m.small := ⟨by have := h.2.1; omega, by have := h.2.2.1; omega, by have := h.2.2.2.1; omega, fun e he => by have := h.2.2.2.2 e he; omega⟩
end Go.Proofs.Ytpdegeknhapgmaa
