/-
  Texts joined: W11, W12, W13, Enc, W14, V1, Ca, V2, V3, Br, BrA, P1, W6, W7, Va, P2.
-/
import Derived.Test.YtkdbedbefojieaaZ1
import Derived.Test.YtkdbedbefojieaaZ2
import Derived.Test.YtkdbedbefojieaaRows
import Derived.OpenShut
import Derived.Carry
import Derived.ChangeArms
import Derived.ChangeSame
import Derived.ChangeMaps5
import Derived.JoinedCond
import Derived.Deep.Slices
namespace Go.Proofs.Ytkdbedbefojieaa
set_option linter.unusedVariables false
set_option linter.unusedSimpArgs false
set_option maxHeartbeats 8000000
open Go.RowKit
set_option maxRecDepth 100000
def beN (l : List UInt8) : Nat := l.foldl (fun x c => 256 * x + c.toNat) 0
theorem beN_snoc (l : List UInt8) (c : UInt8) : beN (l ++ [c]) = 256 * beN l + c.toNat := by simp [beN, List.foldl_append]
theorem beN_lt (l : List UInt8) : beN l < 256 ^ l.length := by
  have h : ∀ (l : List UInt8) (x : Nat), l.foldl (fun x c => 256 * x + c.toNat) x + 1 ≤ (x + 1) * 256 ^ l.length := by
    intro l
    induction l with
    | nil => intro x; simp
    | cons c l ih =>
      intro x
      refine Nat.le_trans (ih _) ?_
      rw [List.length_cons, Nat.pow_succ', ← Nat.mul_assoc]
      refine Nat.mul_le_mul_right _ ?_
      have := c.toNat_lt
      show 256 * x + c.toNat + 1 ≤ _
      omega
  have := h l 0
  simp only [beN]
  omega
def loadS (b : List UInt8) (p : Int) (n : Nat) : Nat × Bool := if p < 0 ∨ (b.length : Int) - n < p then (0, false) else (beN ((b.drop p.toNat).take n), true)
theorem or8 (x c : Nat) (hx : x < 2 ^ 56) (hc : c < 256) : IntKind.u64.wrap (BitVec.toNat (BitVec.ofInt 64 (IntKind.u64.wrap ((x : Int) * 2 ^ 8)) ||| BitVec.ofInt 64 (IntKind.u64.wrap (c : Int)))) = ((256 * x + c : Nat) : Int) := by
  have e1 : IntKind.u64.wrap ((x : Int) * 2 ^ 8) = ((x * 256 : Nat) : Int) := by simp [IntKind.wrap, IntKind.bits, IntKind.signed]; omega
  have e2 : IntKind.u64.wrap (c : Int) = (c : Int) := by simp [IntKind.wrap, IntKind.bits, IntKind.signed]; omega
  rw [e1, e2, BitVec.ofInt_natCast, BitVec.ofInt_natCast, BitVec.toNat_or, BitVec.toNat_ofNat, BitVec.toNat_ofNat, Nat.mod_eq_of_lt (by omega), Nat.mod_eq_of_lt (by omega)]
  have e3 : x * 256 ||| c = 256 * x + c := by
    have := Nat.shiftLeft_add_eq_or_of_lt (i := 8) (b := c) hc x
    rw [Nat.shiftLeft_eq, show (2 : Nat) ^ 8 = 256 from rfl] at this
    omega
  rw [e3]
  simp [IntKind.wrap, IntKind.bits, IntKind.signed]; omega
theorem or8' (x c : Nat) (hx : x < 2 ^ 56) (hc : c < 256) : IntKind.u64.wrap (BitVec.toNat (BitVec.ofInt IntKind.u64.bits (IntKind.u64.wrap ((x : Int) * 2 ^ min (Int.toNat 8) IntKind.u64.bits)) ||| BitVec.ofInt IntKind.u64.bits (IntKind.u64.wrap (c : Int)))) = ((256 * x + c : Nat) : Int) := or8 x c hx hc
theorem load_ac (b : List UInt8) (p : Int) (n : Nat) (hn : n ≤ 8) (hb : b.length ≤ 100000000) (hp : p ≤ 200000000) (hp2 : -1000000 ≤ p) :
    AC Try.prog 124 [bs none b, I p, I n] [] (fun v bs' => v = .tu [.sc (.int .u64 ((loadS b p n).1 : Int)), B (loadS b p n).2] ∧ bs' = []) := by
  have hw0 : IntKind.i64.wrap ((b.length : Int) - n) = (b.length : Int) - n := wrap_i64 (by omega) (by omega)
  have hw1 : IntKind.i64.wrap (p + n) = p + n := wrap_i64 (by omega) (by omega)
  by_cases hs : p < 0 ∨ (b.length : Int) - n < p
  · have e0 : loadS b p n = (0, false) := by simp [loadS, hs]
    rw [e0]
    refine AC.N Try.func124 Try.ntmps124 ?_
    intro X
    simp only [nx, Nat.reduceAdd, Nat.reduceSub, BEq.rfl]
    repeat' (first
      | ((first
      | ((with_reducible apply AP.k_any); first
               | refine AP.S ?_
               | refine AP.E ?_
               | (refine AP.Y ?_; dsimp only) | refine AP.G (fun hg => ?_) (fun hg => ?_)
        )
      
      )
        <;> (try simp only [nx, Nat.reduceAdd, Nat.reduceSub, BEq.rfl]))
      | ((with_reducible apply AP.k_nil); first
          | (refine AP.nil (hQ' _ ?_); clear hQ' Q')
          | refine AP.nil ?_)
      | ((with_reducible apply CP.k_reg); refine cp_regG fun Q' hQ' => ?_)
        | (with_reducible apply CP.k_reg1; refine cp_region ?_)
        | ((with_reducible apply CP.k_cond); first | refine cp_condT rfl ?_ | refine cp_condF rfl ?_ | refine cp_cond rfl (fun hc => ?_) (fun hc => ?_))
        | refine CP.go ?_
        | (simp only [List.append_eq, List.cons_append, List.nil_append]))
    all_goals first
      | (refine RetQ.B [] ?_; (try dsimp only [resV, List.getD_cons_succ, List.getD_cons_zero]); (exact ⟨rfl, rfl⟩))
      | (exfalso; simp [hw0] at *; omega)
  · have e0 : loadS b p n = (beN ((b.drop p.toNat).take n), true) := by simp [loadS, hs]
    rw [e0]
    obtain ⟨q, rfl⟩ : ∃ q : Nat, p = q := ⟨p.toNat, by omega⟩
    have g1 : (q : Int) ≤ IntKind.i64.wrap ((q : Int) + n) := by rw [hw1]; omega
    have g2 : IntKind.i64.wrap ((q : Int) + n) ≤ ((b.map eB).length : Int) := by rw [hw1]; simp; omega
    have e2 : (b.drop q).take (((q : Int) + n).toNat - q) = (b.drop q).take n := by rw [show ((q : Int) + n).toNat - q = n by omega]
    have hl : ((b.drop q).take n).length = n := by (rw [List.length_take, List.length_drop]; omega)
    refine AC.N Try.func124 Try.ntmps124 ?_
    intro X
    simp only [nx, Nat.reduceAdd, Nat.reduceSub, BEq.rfl]
    repeat' (first
      | ((first
      | ((with_reducible apply AP.k_any); first
               | refine AP.S ?_
               | refine AP.E ?_
               | (refine AP.Y ?_; dsimp only) | refine AP.G (fun hg => ?_) (fun hg => ?_)
        )
      
      )
        <;> (try simp only [nx, Nat.reduceAdd, Nat.reduceSub, BEq.rfl]))
      | ((with_reducible apply AP.k_nil); first
          | (refine AP.nil (hQ' _ ?_); clear hQ' Q')
          | refine AP.nil ?_)
      | ((with_reducible apply CP.k_reg); refine cp_regG fun Q' hQ' => ?_)
        | (with_reducible apply CP.k_reg1; refine cp_region ?_)
        | ((with_reducible apply CP.k_cond); first | refine cp_condT rfl ?_ | refine cp_condF rfl ?_ | refine cp_cond rfl (fun hc => ?_) (fun hc => ?_))
        | refine CP.go ?_
        | (simp only [List.append_eq, List.cons_append, List.nil_append]))
    all_goals first
      | (exfalso; simp [hw0] at *; omega)
      | skip
    · simp only [hw1, Int.toNat_natCast, e2]
      generalize (b.drop q).take n = c at hl e2 ⊢
      refine cp_loopS [8, 10, 28, 29, 30, 31, 32, 33, 34, 35, 36, 37] (fun k : Nat => c.length - k) (fun k => k ≤ c.length) (fun k => [(28, I k), (8, .sc (.int .u64 (beN (c.take k) : Int)))]) (fun _ => []) 0 (Nat.zero_le _) (by exact Gh.W) ?_
      rintro k hk
      simp only [setT, deT, setB, List.set_cons_succ, List.set_cons_zero]
      by_cases hlt : k < c.length
      · have hw : IntKind.i64.wrap ((k : Int) + 1) = ((k + 1 : Nat) : Int) := wrap_i64 (by omega) (by omega)
        have hb1 := beN_lt (c.take k)
        have hb2 : 256 ^ (c.take k).length ≤ 256 ^ 7 := Nat.pow_le_pow_right (by omega) (by simp; omega)
        have ho := or8' (beN (c.take k)) c[k].toNat (by omega) c[k].toNat_lt
        have hsn : beN (c.take (k + 1)) = 256 * beN (c.take k) + c[k].toNat := by rw [List.take_succ_eq_append_getElem hlt, beN_snoc]
        repeat' (first
          | ((first
          | ((with_reducible apply AP.k_any); first
                   | refine AP.S ?_
                   | refine AP.E ?_
                   | (refine AP.Y ?_; dsimp only) | refine AP.G (fun hg => ?_) (fun hg => ?_)
            )
          
          )
            <;> (try simp only [nx, Nat.reduceAdd, Nat.reduceSub, BEq.rfl]))
          | ((with_reducible apply AP.k_nil); first
              | (refine AP.nil (hQ' _ ?_); clear hQ' Q')
              | refine AP.nil ?_)
          | ((with_reducible apply CP.k_reg); refine cp_regG fun Q' hQ' => ?_)
            | (with_reducible apply CP.k_reg1; refine cp_region ?_)
            | ((with_reducible apply CP.k_cond); first | refine cp_condT rfl ?_ | refine cp_condF rfl ?_ | refine cp_cond rfl (fun hc => ?_) (fun hc => ?_))
            | refine CP.go ?_
            | (simp only [List.append_eq, List.cons_append, List.nil_append]))
        · simp only [hw]
          refine ⟨k + 1, by omega, by omega, ?_⟩
          rw [hsn, ← ho]
          exact Gh.W
        · exfalso; simp at *; omega
      · obtain rfl : k = c.length := by omega
        rw [List.take_length]
        repeat' (first
          | ((first
          | ((with_reducible apply AP.k_any); first
                   | refine AP.S ?_
                   | refine AP.E ?_
                   | (refine AP.Y ?_; dsimp only) | refine AP.G (fun hg => ?_) (fun hg => ?_)
            )
          
          )
            <;> (try simp only [nx, Nat.reduceAdd, Nat.reduceSub, BEq.rfl]))
          | ((with_reducible apply AP.k_nil); first
              | (refine AP.nil (hQ' _ ?_); clear hQ' Q')
              | refine AP.nil ?_)
          | ((with_reducible apply CP.k_reg); refine cp_regG fun Q' hQ' => ?_)
            | (with_reducible apply CP.k_reg1; refine cp_region ?_)
            | ((with_reducible apply CP.k_cond); first | refine cp_condT rfl ?_ | refine cp_condF rfl ?_ | refine cp_cond rfl (fun hc => ?_) (fun hc => ?_))
            | refine CP.go ?_
            | (simp only [List.append_eq, List.cons_append, List.nil_append]))
        all_goals first
          | (exfalso; simp at *; done)
          | (exfalso; simp at *; omega)
          | (refine RetQ.B [] ?_; (try dsimp only [resV, List.getD_cons_succ, List.getD_cons_zero]); (exact ⟨rfl, rfl⟩))
end Go.Proofs.Ytkdbedbefojieaa

namespace Go.Proofs.Ytkdbedbefojieaa
set_option linter.unusedVariables false
set_option linter.unusedSimpArgs false
set_option maxHeartbeats 8000000
open Go.RowKit
set_option maxRecDepth 100000
abbrev tRd : TypeId := 124
abbrev rB (st : Int × List UInt8) : Bx := .c tRd [B true, bs none st.2, I st.1]
def newR (b : List UInt8) : Int × List UInt8 := if 65536 < b.length then (3, []) else (0, b)
theorem rnew_ac (b : List UInt8) (hb : b.length ≤ 100000000) : AC Try.prog 63 [bs none b] [] (fun v bs' => v = .bp 0 0 0 ∧ bs' = [rB (newR b)]) := by
  by_cases h : 65536 < b.length
  · have e : newR b = (3, []) := by simp [newR, h]
    rw [e]
    refine AC.N Try.func63 Try.ntmps63 ?_
    intro X
    simp only [nx, Nat.reduceAdd, Nat.reduceSub, BEq.rfl]
    repeat' (first
      | ((first
      | ((with_reducible apply AP.k_any); first
               | refine AP.S ?_
        )
      
      )
        <;> (try simp only [nx, Nat.reduceAdd, Nat.reduceSub, BEq.rfl]))
      | ((with_reducible apply AP.k_nil); first
          | (refine AP.nil (hQ' _ ?_); clear hQ' Q')
          | refine AP.nil ?_)
      | ((with_reducible apply CP.k_reg); refine cp_regG fun Q' hQ' => ?_)
        | (with_reducible apply CP.k_reg1; refine cp_region ?_)
        | ((with_reducible apply CP.k_cond); first | refine cp_condT rfl ?_ | refine cp_condF rfl ?_ | refine cp_cond rfl (fun hc => ?_) (fun hc => ?_))
        | refine CP.go ?_
        | (simp only [List.append_eq, List.cons_append, List.nil_append]))
    · (exact RetQ.A [(0, 1)] (by exact ⟨rfl, rfl⟩))
    · exfalso; simp at *; omega
  · have e : newR b = (0, b) := by simp [newR, h]
    have hcat := (wcat_ac [b] (by simp) (by simp; omega)).ro (r2 := bs none b) (by simp [AV.ro, ro_B])
    rw [e]
    refine AC.N Try.func63 Try.ntmps63 ?_
    intro X
    simp only [nx, Nat.reduceAdd, Nat.reduceSub, BEq.rfl]
    repeat' (first
      | ((first
      | ((with_reducible apply AP.k_any); first
               | refine AP.Z ?_
        )
      | ((with_reducible apply AP.k_any); refine AP.C (hcat) ?_)
        | ((with_reducible apply AP.k_any); refine AP.gh (gh_fz (b := 0) (u := 1) rfl rfl (by (repeat' (first | exact FzC.nil | apply FzC.cons | exact FzV.hd | apply FzV.ag | exact FzV.same))) (by (repeat' (first | exact FzB.nil | apply FzB.c | apply FzB.same | exact FzC.nil | apply FzC.cons | exact FzV.hd | apply FzV.ag | exact FzV.same)))) ?_; first | simp only [roE, roC, AV.ro, ro_B, ro_M, ro_E] | simp only [roE, roC, AV.ro, ro_B])
      )
        <;> (try simp only [nx, Nat.reduceAdd, Nat.reduceSub, BEq.rfl]))
      | ((with_reducible apply AP.k_nil); first
          | (refine AP.nil (hQ' _ ?_); clear hQ' Q')
          | refine AP.nil ?_)
      | ((with_reducible apply CP.k_reg); refine cp_regG fun Q' hQ' => ?_)
        | (with_reducible apply CP.k_reg1; refine cp_region ?_)
        | ((with_reducible apply CP.k_cond); first | refine cp_condT rfl ?_ | refine cp_condF rfl ?_ | refine cp_cond rfl (fun hc => ?_) (fun hc => ?_))
        | refine CP.go ?_
        | (simp only [List.append_eq, List.cons_append, List.nil_append]))
    · exfalso; simp at *; omega
    · (exact RetQ.A [(0, 2)] (by exact ⟨rfl, rfl⟩))
theorem fine_ac (st : Int × List UInt8) : AC Try.prog 120 [.bp 0 0 0] [rB st] (fun v bs' => v = B (st.1 == 0) ∧ bs' = [rB st]) := by
  refine AC.N Try.func120 Try.ntmps120 ?_
  intro X
  simp only [nx, Nat.reduceAdd, Nat.reduceSub, BEq.rfl]
  repeat' (first
    | ((first
    | ((with_reducible apply AP.k_any); first
             | refine AP.S ?_
             | (refine AP.Y ?_; dsimp only) | refine AP.G (fun hg => ?_) (fun hg => ?_)
             | (refine AP.V (fun c hnil => ?_); simp only [nz])
      )
    
    )
      <;> (try simp only [nx, Nat.reduceAdd, Nat.reduceSub, BEq.rfl]))
    | ((with_reducible apply AP.k_nil); first
        | (refine AP.nil (hQ' _ ?_); clear hQ' Q')
        | refine AP.nil ?_)
    | ((with_reducible apply CP.k_reg); refine cp_regG fun Q' hQ' => ?_)
      | (with_reducible apply CP.k_reg1; refine cp_region ?_)
      | ((with_reducible apply CP.k_cond); first | refine cp_condT rfl ?_ | refine cp_condF rfl ?_ | refine cp_cond rfl (fun hc => ?_) (fun hc => ?_))
      | refine CP.go ?_
      | (simp only [List.append_eq, List.cons_append, List.nil_append]))
  (exact RetQ.A [(0, 0)] (by exact ⟨rfl, rfl⟩))
theorem rbad_ac (st : Int × List UInt8) : AC Try.prog 121 [.bp 0 0 0] [rB st] (fun v bs' => v = .tu [] ∧ bs' = [rB (40, [])]) := by
  refine AC.N Try.func121 Try.ntmps121 ?_
  intro X
  simp only [nx, Nat.reduceAdd, Nat.reduceSub, BEq.rfl]
  repeat' (first
    | ((first
    | ((with_reducible apply AP.k_any); first
             | refine AP.S ?_
      )
    
    )
      <;> (try simp only [nx, Nat.reduceAdd, Nat.reduceSub, BEq.rfl]))
    | ((with_reducible apply AP.k_nil); first
        | (refine AP.nil (hQ' _ ?_); clear hQ' Q')
        | refine AP.nil ?_)
    | ((with_reducible apply CP.k_reg); refine cp_regG fun Q' hQ' => ?_)
      | (with_reducible apply CP.k_reg1; refine cp_region ?_)
      | ((with_reducible apply CP.k_cond); first | refine cp_condT rfl ?_ | refine cp_condF rfl ?_ | refine cp_cond rfl (fun hc => ?_) (fun hc => ?_))
      | refine CP.go ?_
      | (simp only [List.append_eq, List.cons_append, List.nil_append]))
  (exact RetQ.A [(0, 0)] (by exact ⟨rfl, rfl⟩))
def takeS {α : Type} (z : α) (f : List UInt8 → α × Bool) (n : Int) (st : Int × List UInt8) : α × (Int × List UInt8) :=
  if st.1 ≠ 0 then (z, st) else if n < 0 ∨ (st.2.length : Int) < n then (z, (40, []))
  else if (f (st.2.take n.toNat)).2 = true then ((f (st.2.take n.toNat)).1, (0, st.2.drop n.toNat)) else (z, (40, []))
theorem take_map_drop (b : List UInt8) (n : Nat) (m : Nat) (h : b.length ≤ m) : (List.drop n (b.map eB)).take (m - n) = (b.drop n).map eB := by
  rw [List.map_drop, List.take_of_length_le (by simp; omega)]
theorem take1_ac  (f : Nat) (g : List UInt8 → UInt8 × Bool) (n : Int) (st : Int × List UInt8) (hst : st.2.length ≤ 100000000) (hf : ∀ b : List UInt8, b.length = n.toNat → b.length ≤ st.2.length → AC Try.prog f [bs none b] [] (fun v bs' => v = .tu [U (g b).1, B (g b).2] ∧ bs' = [])) :
    AC Try.prog 99 [.bp 0 0 0, I n, .fn f []] [rB st] (fun v bs' => v = U (takeS (0 : UInt8) g n st).1 ∧ bs' = [rB (takeS (0 : UInt8) g n st).2]) := by
  obtain ⟨e, b⟩ := st
  by_cases he : e = 0
  · subst he
    by_cases hn : n < 0 ∨ (b.length : Int) < n
    · have ht : takeS (0 : UInt8) g n (0, b) = ((0 : UInt8), (40, [])) := by simp only [takeS, hn]; simp
      rw [ht]
      refine AC.N Try.func99 Try.ntmps99 ?_
      intro X
      simp only [nx, Nat.reduceAdd, Nat.reduceSub, BEq.rfl]
      repeat' (first
        | ((first
        | ((with_reducible apply AP.k_any); first
                 | refine AP.S ?_
                 | (refine AP.Y ?_; dsimp only) | refine AP.G (fun hg => ?_) (fun hg => ?_)
          )
        | ((with_reducible apply AP.k_any); refine AP.CB [(0, 0)] 0 (fine_ac (0, b)) ?_)
            | ((with_reducible apply AP.k_any); refine AP.CB [(0, 0)] 0 (rbad_ac (0, b)) ?_)
        )
          <;> (try simp only [nx, Nat.reduceAdd, Nat.reduceSub, BEq.rfl]))
        | ((with_reducible apply AP.k_nil); first
            | (refine AP.nil (hQ' _ ?_); clear hQ' Q')
            | refine AP.nil ?_)
        | ((with_reducible apply CP.k_reg); refine cp_regG fun Q' hQ' => ?_)
          | (with_reducible apply CP.k_reg1; refine cp_region ?_)
          | ((with_reducible apply CP.k_cond); first | refine cp_condT rfl ?_ | refine cp_condF rfl ?_ | refine cp_cond rfl (fun hc => ?_) (fun hc => ?_))
          | refine CP.go ?_
          | (simp only [List.append_eq, List.cons_append, List.nil_append]))
      all_goals first
        | (exfalso; simp at *; done)
        | (exfalso; simp at *; omega)
        | (exact RetQ.A [(0, 0)] (by exact ⟨rfl, rfl⟩))
    · have hl : (b.take n.toNat).length = n.toNat := by simp; omega
      have hf' := hf (b.take n.toNat) hl (by rw [List.length_take]; exact Nat.min_le_right _ _)
      have htk : List.take (b.length - n.toNat) (List.drop n.toNat b) = List.drop n.toNat b := List.take_of_length_le (by simp)
      have hn0 : 0 ≤ n := by omega
      have hn1 : n ≤ (b.length : Int) := by omega
      have hm : n ≤ ((b.map eB).length : Int) := by simp; omega
      have ht : takeS (0 : UInt8) g n (0, b) = if (g (b.take n.toNat)).2 = true then ((g (b.take n.toNat)).1, (0, b.drop n.toNat)) else ((0 : UInt8), (40, [])) := by simp only [takeS, hn]; simp
      rw [ht]
      cases hg2 : (g (b.take n.toNat)).2 with
      | true =>
        rw [hg2] at hf'
        simp only [if_true]
        refine AC.N Try.func99 Try.ntmps99 ?_
        intro X
        simp only [nx, Nat.reduceAdd, Nat.reduceSub, BEq.rfl]
        repeat' (first
          | ((first
          | ((with_reducible apply AP.k_any); first
                   | refine AP.S ?_
                   | (refine AP.Y ?_; dsimp only) | refine AP.G (fun hg => ?_) (fun hg => ?_)
            )
          | ((with_reducible apply AP.k_any); refine AP.CB [(0, 0)] 0 (fine_ac (0, b)) ?_)
                | ((with_reducible apply AP.k_any); refine ap_callX rfl rfl (fn := f) rfl hf' (by (repeat' (first | exact PasC.nil | apply PasC.nil | apply PasC.cons | apply PasV.leaf rfl | apply PasV.nl | apply PasV.bp rfl | apply PasV.lend rfl rfl rfl | apply PasV.lend rfl rfl (ro_B _) | apply PasV.lend rfl rfl (ro_M _) | apply PasV.lend rfl rfl (ro_E _ _) | apply PasV.lend rfl rfl (ro_I _) | apply PasV.mv rfl | apply PasV.ag | apply PasV.fn | exact PasV.fs | apply PasV.any))) rfl rfl ?_)
                | ((with_reducible apply AP.k_any); refine AP.CB [(0, 0)] 0 (rbad_ac (0, b)) ?_)
          )
            <;> (try simp only [nx, Nat.reduceAdd, Nat.reduceSub, BEq.rfl]))
          | ((with_reducible apply AP.k_nil); first
              | (refine AP.nil (hQ' _ ?_); clear hQ' Q')
              | refine AP.nil ?_)
          | ((with_reducible apply CP.k_reg); refine cp_regG fun Q' hQ' => ?_)
            | (with_reducible apply CP.k_reg1; refine cp_region ?_)
            | ((with_reducible apply CP.k_cond); first | refine cp_condT rfl ?_ | refine cp_condF rfl ?_ | refine cp_cond rfl (fun hc => ?_) (fun hc => ?_))
            | refine CP.go ?_
            | (simp only [List.append_eq, List.cons_append, List.nil_append]))
        all_goals first
          | (exfalso; simp at *; done)
          | (exfalso; simp at *; omega)
          | (simp only [htk]
             (exact RetQ.A [(0, 0)] (by exact ⟨rfl, rfl⟩)))
      | false =>
        rw [hg2] at hf'
        simp only [Bool.false_eq_true, if_false]
        refine AC.N Try.func99 Try.ntmps99 ?_
        intro X
        simp only [nx, Nat.reduceAdd, Nat.reduceSub, BEq.rfl]
        repeat' (first
          | ((first
          | ((with_reducible apply AP.k_any); first
                   | refine AP.S ?_
                   | (refine AP.Y ?_; dsimp only) | refine AP.G (fun hg => ?_) (fun hg => ?_)
            )
          | ((with_reducible apply AP.k_any); refine AP.CB [(0, 0)] 0 (fine_ac (0, b)) ?_)
                | ((with_reducible apply AP.k_any); refine ap_callX rfl rfl (fn := f) rfl hf' (by (repeat' (first | exact PasC.nil | apply PasC.nil | apply PasC.cons | apply PasV.leaf rfl | apply PasV.nl | apply PasV.bp rfl | apply PasV.lend rfl rfl rfl | apply PasV.lend rfl rfl (ro_B _) | apply PasV.lend rfl rfl (ro_M _) | apply PasV.lend rfl rfl (ro_E _ _) | apply PasV.lend rfl rfl (ro_I _) | apply PasV.mv rfl | apply PasV.ag | apply PasV.fn | exact PasV.fs | apply PasV.any))) rfl rfl ?_)
                | ((with_reducible apply AP.k_any); refine AP.CB [(0, 0)] 0 (rbad_ac (0, b)) ?_)
          )
            <;> (try simp only [nx, Nat.reduceAdd, Nat.reduceSub, BEq.rfl]))
          | ((with_reducible apply AP.k_nil); first
              | (refine AP.nil (hQ' _ ?_); clear hQ' Q')
              | refine AP.nil ?_)
          | ((with_reducible apply CP.k_reg); refine cp_regG fun Q' hQ' => ?_)
            | (with_reducible apply CP.k_reg1; refine cp_region ?_)
            | ((with_reducible apply CP.k_cond); first | refine cp_condT rfl ?_ | refine cp_condF rfl ?_ | refine cp_cond rfl (fun hc => ?_) (fun hc => ?_))
            | refine CP.go ?_
            | (simp only [List.append_eq, List.cons_append, List.nil_append]))
        all_goals first
          | (exfalso; simp at *; done)
          | (exfalso; simp at *; omega)
          | (exact RetQ.A [(0, 0)] (by exact ⟨rfl, rfl⟩))
  · have ht : takeS (0 : UInt8) g n (e, b) = ((0 : UInt8), (e, b)) := by simp [takeS, he]
    have hb : ((e : Int) == 0) = false := by simp [he]
    rw [ht]
    refine AC.N Try.func99 Try.ntmps99 ?_
    intro X
    simp only [nx, Nat.reduceAdd, Nat.reduceSub, BEq.rfl]
    repeat' (first
      | ((first
      | ((with_reducible apply AP.k_any); first
               | refine AP.S ?_
               | (refine AP.Y ?_; dsimp only) | refine AP.G (fun hg => ?_) (fun hg => ?_)
        )
      | ((with_reducible apply AP.k_any); refine AP.CB [(0, 0)] 0 (fine_ac (e, b)) ?_)
      )
        <;> (try simp only [nx, Nat.reduceAdd, Nat.reduceSub, BEq.rfl]))
      | ((with_reducible apply AP.k_nil); first
          | (refine AP.nil (hQ' _ ?_); clear hQ' Q')
          | refine AP.nil ?_)
      | ((with_reducible apply CP.k_reg); refine cp_regG fun Q' hQ' => ?_)
        | (with_reducible apply CP.k_reg1; refine cp_region ?_)
        | ((with_reducible apply CP.k_cond); first | refine cp_condT rfl ?_ | refine cp_condF rfl ?_ | refine cp_cond rfl (fun hc => ?_) (fun hc => ?_))
        | refine CP.go ?_
        | (simp only [List.append_eq, List.cons_append, List.nil_append]))
    all_goals first
      | (exfalso; simp at *; done)
      | (exfalso; simp at *; omega)
      | (exact RetQ.A [(0, 0)] (by exact ⟨rfl, rfl⟩))
theorem take2_ac  (f : Nat) (g : List UInt8 → Bool × Bool) (n : Int) (st : Int × List UInt8) (hst : st.2.length ≤ 100000000) (hf : ∀ b : List UInt8, b.length = n.toNat → b.length ≤ st.2.length → AC Try.prog f [bs none b] [] (fun v bs' => v = .tu [B (g b).1, B (g b).2] ∧ bs' = [])) :
    AC Try.prog 105 [.bp 0 0 0, I n, .fn f []] [rB st] (fun v bs' => v = B (takeS false g n st).1 ∧ bs' = [rB (takeS false g n st).2]) := by
  obtain ⟨e, b⟩ := st
  by_cases he : e = 0
  · subst he
    by_cases hn : n < 0 ∨ (b.length : Int) < n
    · have ht : takeS false g n (0, b) = (false, (40, [])) := by simp only [takeS, hn]; simp
      rw [ht]
      refine AC.N Try.func105 Try.ntmps105 ?_
      intro X
      simp only [nx, Nat.reduceAdd, Nat.reduceSub, BEq.rfl]
      repeat' (first
        | ((first
        | ((with_reducible apply AP.k_any); first
                 | refine AP.S ?_
                 | (refine AP.Y ?_; dsimp only) | refine AP.G (fun hg => ?_) (fun hg => ?_)
          )
        | ((with_reducible apply AP.k_any); refine AP.CB [(0, 0)] 0 (fine_ac (0, b)) ?_)
            | ((with_reducible apply AP.k_any); refine AP.CB [(0, 0)] 0 (rbad_ac (0, b)) ?_)
        )
          <;> (try simp only [nx, Nat.reduceAdd, Nat.reduceSub, BEq.rfl]))
        | ((with_reducible apply AP.k_nil); first
            | (refine AP.nil (hQ' _ ?_); clear hQ' Q')
            | refine AP.nil ?_)
        | ((with_reducible apply CP.k_reg); refine cp_regG fun Q' hQ' => ?_)
          | (with_reducible apply CP.k_reg1; refine cp_region ?_)
          | ((with_reducible apply CP.k_cond); first | refine cp_condT rfl ?_ | refine cp_condF rfl ?_ | refine cp_cond rfl (fun hc => ?_) (fun hc => ?_))
          | refine CP.go ?_
          | (simp only [List.append_eq, List.cons_append, List.nil_append]))
      all_goals first
        | (exfalso; simp at *; done)
        | (exfalso; simp at *; omega)
        | (exact RetQ.A [(0, 0)] (by exact ⟨rfl, rfl⟩))
    · have hl : (b.take n.toNat).length = n.toNat := by simp; omega
      have hf' := hf (b.take n.toNat) hl (by rw [List.length_take]; exact Nat.min_le_right _ _)
      have htk : List.take (b.length - n.toNat) (List.drop n.toNat b) = List.drop n.toNat b := List.take_of_length_le (by simp)
      have hn0 : 0 ≤ n := by omega
      have hn1 : n ≤ (b.length : Int) := by omega
      have hm : n ≤ ((b.map eB).length : Int) := by simp; omega
      have ht : takeS false g n (0, b) = if (g (b.take n.toNat)).2 = true then ((g (b.take n.toNat)).1, (0, b.drop n.toNat)) else (false, (40, [])) := by simp only [takeS, hn]; simp
      rw [ht]
      cases hg2 : (g (b.take n.toNat)).2 with
      | true =>
        rw [hg2] at hf'
        simp only [if_true]
        refine AC.N Try.func105 Try.ntmps105 ?_
        intro X
        simp only [nx, Nat.reduceAdd, Nat.reduceSub, BEq.rfl]
        repeat' (first
          | ((first
          | ((with_reducible apply AP.k_any); first
                   | refine AP.S ?_
                   | (refine AP.Y ?_; dsimp only) | refine AP.G (fun hg => ?_) (fun hg => ?_)
            )
          | ((with_reducible apply AP.k_any); refine AP.CB [(0, 0)] 0 (fine_ac (0, b)) ?_)
                | ((with_reducible apply AP.k_any); refine ap_callX rfl rfl (fn := f) rfl hf' (by (repeat' (first | exact PasC.nil | apply PasC.nil | apply PasC.cons | apply PasV.leaf rfl | apply PasV.nl | apply PasV.bp rfl | apply PasV.lend rfl rfl rfl | apply PasV.lend rfl rfl (ro_B _) | apply PasV.lend rfl rfl (ro_M _) | apply PasV.lend rfl rfl (ro_E _ _) | apply PasV.lend rfl rfl (ro_I _) | apply PasV.mv rfl | apply PasV.ag | apply PasV.fn | exact PasV.fs | apply PasV.any))) rfl rfl ?_)
                | ((with_reducible apply AP.k_any); refine AP.CB [(0, 0)] 0 (rbad_ac (0, b)) ?_)
          )
            <;> (try simp only [nx, Nat.reduceAdd, Nat.reduceSub, BEq.rfl]))
          | ((with_reducible apply AP.k_nil); first
              | (refine AP.nil (hQ' _ ?_); clear hQ' Q')
              | refine AP.nil ?_)
          | ((with_reducible apply CP.k_reg); refine cp_regG fun Q' hQ' => ?_)
            | (with_reducible apply CP.k_reg1; refine cp_region ?_)
            | ((with_reducible apply CP.k_cond); first | refine cp_condT rfl ?_ | refine cp_condF rfl ?_ | refine cp_cond rfl (fun hc => ?_) (fun hc => ?_))
            | refine CP.go ?_
            | (simp only [List.append_eq, List.cons_append, List.nil_append]))
        all_goals first
          | (exfalso; simp at *; done)
          | (exfalso; simp at *; omega)
          | (simp only [htk]
             (exact RetQ.A [(0, 0)] (by exact ⟨rfl, rfl⟩)))
      | false =>
        rw [hg2] at hf'
        simp only [Bool.false_eq_true, if_false]
        refine AC.N Try.func105 Try.ntmps105 ?_
        intro X
        simp only [nx, Nat.reduceAdd, Nat.reduceSub, BEq.rfl]
        repeat' (first
          | ((first
          | ((with_reducible apply AP.k_any); first
                   | refine AP.S ?_
                   | (refine AP.Y ?_; dsimp only) | refine AP.G (fun hg => ?_) (fun hg => ?_)
            )
          | ((with_reducible apply AP.k_any); refine AP.CB [(0, 0)] 0 (fine_ac (0, b)) ?_)
                | ((with_reducible apply AP.k_any); refine ap_callX rfl rfl (fn := f) rfl hf' (by (repeat' (first | exact PasC.nil | apply PasC.nil | apply PasC.cons | apply PasV.leaf rfl | apply PasV.nl | apply PasV.bp rfl | apply PasV.lend rfl rfl rfl | apply PasV.lend rfl rfl (ro_B _) | apply PasV.lend rfl rfl (ro_M _) | apply PasV.lend rfl rfl (ro_E _ _) | apply PasV.lend rfl rfl (ro_I _) | apply PasV.mv rfl | apply PasV.ag | apply PasV.fn | exact PasV.fs | apply PasV.any))) rfl rfl ?_)
                | ((with_reducible apply AP.k_any); refine AP.CB [(0, 0)] 0 (rbad_ac (0, b)) ?_)
          )
            <;> (try simp only [nx, Nat.reduceAdd, Nat.reduceSub, BEq.rfl]))
          | ((with_reducible apply AP.k_nil); first
              | (refine AP.nil (hQ' _ ?_); clear hQ' Q')
              | refine AP.nil ?_)
          | ((with_reducible apply CP.k_reg); refine cp_regG fun Q' hQ' => ?_)
            | (with_reducible apply CP.k_reg1; refine cp_region ?_)
            | ((with_reducible apply CP.k_cond); first | refine cp_condT rfl ?_ | refine cp_condF rfl ?_ | refine cp_cond rfl (fun hc => ?_) (fun hc => ?_))
            | refine CP.go ?_
            | (simp only [List.append_eq, List.cons_append, List.nil_append]))
        all_goals first
          | (exfalso; simp at *; done)
          | (exfalso; simp at *; omega)
          | (exact RetQ.A [(0, 0)] (by exact ⟨rfl, rfl⟩))
  · have ht : takeS false g n (e, b) = (false, (e, b)) := by simp [takeS, he]
    have hb : ((e : Int) == 0) = false := by simp [he]
    rw [ht]
    refine AC.N Try.func105 Try.ntmps105 ?_
    intro X
    simp only [nx, Nat.reduceAdd, Nat.reduceSub, BEq.rfl]
    repeat' (first
      | ((first
      | ((with_reducible apply AP.k_any); first
               | refine AP.S ?_
               | (refine AP.Y ?_; dsimp only) | refine AP.G (fun hg => ?_) (fun hg => ?_)
        )
      | ((with_reducible apply AP.k_any); refine AP.CB [(0, 0)] 0 (fine_ac (e, b)) ?_)
      )
        <;> (try simp only [nx, Nat.reduceAdd, Nat.reduceSub, BEq.rfl]))
      | ((with_reducible apply AP.k_nil); first
          | (refine AP.nil (hQ' _ ?_); clear hQ' Q')
          | refine AP.nil ?_)
      | ((with_reducible apply CP.k_reg); refine cp_regG fun Q' hQ' => ?_)
        | (with_reducible apply CP.k_reg1; refine cp_region ?_)
        | ((with_reducible apply CP.k_cond); first | refine cp_condT rfl ?_ | refine cp_condF rfl ?_ | refine cp_cond rfl (fun hc => ?_) (fun hc => ?_))
        | refine CP.go ?_
        | (simp only [List.append_eq, List.cons_append, List.nil_append]))
    all_goals first
      | (exfalso; simp at *; done)
      | (exfalso; simp at *; omega)
      | (exact RetQ.A [(0, 0)] (by exact ⟨rfl, rfl⟩))
theorem take3_ac  (f : Nat) (g : List UInt8 → Int × Bool) (n : Int) (st : Int × List UInt8) (hst : st.2.length ≤ 100000000) (hf : ∀ b : List UInt8, b.length = n.toNat → b.length ≤ st.2.length → AC Try.prog f [bs none b] [] (fun v bs' => v = .tu [I (g b).1, B (g b).2] ∧ bs' = [])) :
    AC Try.prog 102 [.bp 0 0 0, I n, .fn f []] [rB st] (fun v bs' => v = I (takeS (0 : Int) g n st).1 ∧ bs' = [rB (takeS (0 : Int) g n st).2]) := by
  obtain ⟨e, b⟩ := st
  by_cases he : e = 0
  · subst he
    by_cases hn : n < 0 ∨ (b.length : Int) < n
    · have ht : takeS (0 : Int) g n (0, b) = ((0 : Int), (40, [])) := by simp only [takeS, hn]; simp
      rw [ht]
      refine AC.N Try.func102 Try.ntmps102 ?_
      intro X
      simp only [nx, Nat.reduceAdd, Nat.reduceSub, BEq.rfl]
      repeat' (first
        | ((first
        | ((with_reducible apply AP.k_any); first
                 | refine AP.S ?_
                 | (refine AP.Y ?_; dsimp only) | refine AP.G (fun hg => ?_) (fun hg => ?_)
          )
        | ((with_reducible apply AP.k_any); refine AP.CB [(0, 0)] 0 (fine_ac (0, b)) ?_)
            | ((with_reducible apply AP.k_any); refine AP.CB [(0, 0)] 0 (rbad_ac (0, b)) ?_)
        )
          <;> (try simp only [nx, Nat.reduceAdd, Nat.reduceSub, BEq.rfl]))
        | ((with_reducible apply AP.k_nil); first
            | (refine AP.nil (hQ' _ ?_); clear hQ' Q')
            | refine AP.nil ?_)
        | ((with_reducible apply CP.k_reg); refine cp_regG fun Q' hQ' => ?_)
          | (with_reducible apply CP.k_reg1; refine cp_region ?_)
          | ((with_reducible apply CP.k_cond); first | refine cp_condT rfl ?_ | refine cp_condF rfl ?_ | refine cp_cond rfl (fun hc => ?_) (fun hc => ?_))
          | refine CP.go ?_
          | (simp only [List.append_eq, List.cons_append, List.nil_append]))
      all_goals first
        | (exfalso; simp at *; done)
        | (exfalso; simp at *; omega)
        | (exact RetQ.A [(0, 0)] (by exact ⟨rfl, rfl⟩))
    · have hl : (b.take n.toNat).length = n.toNat := by simp; omega
      have hf' := hf (b.take n.toNat) hl (by rw [List.length_take]; exact Nat.min_le_right _ _)
      have htk : List.take (b.length - n.toNat) (List.drop n.toNat b) = List.drop n.toNat b := List.take_of_length_le (by simp)
      have hn0 : 0 ≤ n := by omega
      have hn1 : n ≤ (b.length : Int) := by omega
      have hm : n ≤ ((b.map eB).length : Int) := by simp; omega
      have ht : takeS (0 : Int) g n (0, b) = if (g (b.take n.toNat)).2 = true then ((g (b.take n.toNat)).1, (0, b.drop n.toNat)) else ((0 : Int), (40, [])) := by simp only [takeS, hn]; simp
      rw [ht]
      cases hg2 : (g (b.take n.toNat)).2 with
      | true =>
        rw [hg2] at hf'
        simp only [if_true]
        refine AC.N Try.func102 Try.ntmps102 ?_
        intro X
        simp only [nx, Nat.reduceAdd, Nat.reduceSub, BEq.rfl]
        repeat' (first
          | ((first
          | ((with_reducible apply AP.k_any); first
                   | refine AP.S ?_
                   | (refine AP.Y ?_; dsimp only) | refine AP.G (fun hg => ?_) (fun hg => ?_)
            )
          | ((with_reducible apply AP.k_any); refine AP.CB [(0, 0)] 0 (fine_ac (0, b)) ?_)
                | ((with_reducible apply AP.k_any); refine ap_callX rfl rfl (fn := f) rfl hf' (by (repeat' (first | exact PasC.nil | apply PasC.nil | apply PasC.cons | apply PasV.leaf rfl | apply PasV.nl | apply PasV.bp rfl | apply PasV.lend rfl rfl rfl | apply PasV.lend rfl rfl (ro_B _) | apply PasV.lend rfl rfl (ro_M _) | apply PasV.lend rfl rfl (ro_E _ _) | apply PasV.lend rfl rfl (ro_I _) | apply PasV.mv rfl | apply PasV.ag | apply PasV.fn | exact PasV.fs | apply PasV.any))) rfl rfl ?_)
                | ((with_reducible apply AP.k_any); refine AP.CB [(0, 0)] 0 (rbad_ac (0, b)) ?_)
          )
            <;> (try simp only [nx, Nat.reduceAdd, Nat.reduceSub, BEq.rfl]))
          | ((with_reducible apply AP.k_nil); first
              | (refine AP.nil (hQ' _ ?_); clear hQ' Q')
              | refine AP.nil ?_)
          | ((with_reducible apply CP.k_reg); refine cp_regG fun Q' hQ' => ?_)
            | (with_reducible apply CP.k_reg1; refine cp_region ?_)
            | ((with_reducible apply CP.k_cond); first | refine cp_condT rfl ?_ | refine cp_condF rfl ?_ | refine cp_cond rfl (fun hc => ?_) (fun hc => ?_))
            | refine CP.go ?_
            | (simp only [List.append_eq, List.cons_append, List.nil_append]))
        all_goals first
          | (exfalso; simp at *; done)
          | (exfalso; simp at *; omega)
          | (simp only [htk]
             (exact RetQ.A [(0, 0)] (by exact ⟨rfl, rfl⟩)))
      | false =>
        rw [hg2] at hf'
        simp only [Bool.false_eq_true, if_false]
        refine AC.N Try.func102 Try.ntmps102 ?_
        intro X
        simp only [nx, Nat.reduceAdd, Nat.reduceSub, BEq.rfl]
        repeat' (first
          | ((first
          | ((with_reducible apply AP.k_any); first
                   | refine AP.S ?_
                   | (refine AP.Y ?_; dsimp only) | refine AP.G (fun hg => ?_) (fun hg => ?_)
            )
          | ((with_reducible apply AP.k_any); refine AP.CB [(0, 0)] 0 (fine_ac (0, b)) ?_)
                | ((with_reducible apply AP.k_any); refine ap_callX rfl rfl (fn := f) rfl hf' (by (repeat' (first | exact PasC.nil | apply PasC.nil | apply PasC.cons | apply PasV.leaf rfl | apply PasV.nl | apply PasV.bp rfl | apply PasV.lend rfl rfl rfl | apply PasV.lend rfl rfl (ro_B _) | apply PasV.lend rfl rfl (ro_M _) | apply PasV.lend rfl rfl (ro_E _ _) | apply PasV.lend rfl rfl (ro_I _) | apply PasV.mv rfl | apply PasV.ag | apply PasV.fn | exact PasV.fs | apply PasV.any))) rfl rfl ?_)
                | ((with_reducible apply AP.k_any); refine AP.CB [(0, 0)] 0 (rbad_ac (0, b)) ?_)
          )
            <;> (try simp only [nx, Nat.reduceAdd, Nat.reduceSub, BEq.rfl]))
          | ((with_reducible apply AP.k_nil); first
              | (refine AP.nil (hQ' _ ?_); clear hQ' Q')
              | refine AP.nil ?_)
          | ((with_reducible apply CP.k_reg); refine cp_regG fun Q' hQ' => ?_)
            | (with_reducible apply CP.k_reg1; refine cp_region ?_)
            | ((with_reducible apply CP.k_cond); first | refine cp_condT rfl ?_ | refine cp_condF rfl ?_ | refine cp_cond rfl (fun hc => ?_) (fun hc => ?_))
            | refine CP.go ?_
            | (simp only [List.append_eq, List.cons_append, List.nil_append]))
        all_goals first
          | (exfalso; simp at *; done)
          | (exfalso; simp at *; omega)
          | (exact RetQ.A [(0, 0)] (by exact ⟨rfl, rfl⟩))
  · have ht : takeS (0 : Int) g n (e, b) = ((0 : Int), (e, b)) := by simp [takeS, he]
    have hb : ((e : Int) == 0) = false := by simp [he]
    rw [ht]
    refine AC.N Try.func102 Try.ntmps102 ?_
    intro X
    simp only [nx, Nat.reduceAdd, Nat.reduceSub, BEq.rfl]
    repeat' (first
      | ((first
      | ((with_reducible apply AP.k_any); first
               | refine AP.S ?_
               | (refine AP.Y ?_; dsimp only) | refine AP.G (fun hg => ?_) (fun hg => ?_)
        )
      | ((with_reducible apply AP.k_any); refine AP.CB [(0, 0)] 0 (fine_ac (e, b)) ?_)
      )
        <;> (try simp only [nx, Nat.reduceAdd, Nat.reduceSub, BEq.rfl]))
      | ((with_reducible apply AP.k_nil); first
          | (refine AP.nil (hQ' _ ?_); clear hQ' Q')
          | refine AP.nil ?_)
      | ((with_reducible apply CP.k_reg); refine cp_regG fun Q' hQ' => ?_)
        | (with_reducible apply CP.k_reg1; refine cp_region ?_)
        | ((with_reducible apply CP.k_cond); first | refine cp_condT rfl ?_ | refine cp_condF rfl ?_ | refine cp_cond rfl (fun hc => ?_) (fun hc => ?_))
        | refine CP.go ?_
        | (simp only [List.append_eq, List.cons_append, List.nil_append]))
    all_goals first
      | (exfalso; simp at *; done)
      | (exfalso; simp at *; omega)
      | (exact RetQ.A [(0, 0)] (by exact ⟨rfl, rfl⟩))
theorem take4_ac  (f : Nat) (g : List UInt8 → List UInt8 × Bool) (n : Int) (st : Int × List UInt8) (hst : st.2.length ≤ 100000000) (hf : ∀ b : List UInt8, b.length = n.toNat → b.length ≤ st.2.length → AC Try.prog f [bs none b] [] (fun v bs' => v = .tu [bs none (g b).1, B (g b).2] ∧ bs' = [])) :
    AC Try.prog 130 [.bp 0 0 0, I n, .fn f []] [rB st] (fun v bs' => v = bs none (takeS ([] : List UInt8) g n st).1 ∧ bs' = [rB (takeS ([] : List UInt8) g n st).2]) := by
  obtain ⟨e, b⟩ := st
  by_cases he : e = 0
  · subst he
    by_cases hn : n < 0 ∨ (b.length : Int) < n
    · have ht : takeS ([] : List UInt8) g n (0, b) = (([] : List UInt8), (40, [])) := by simp only [takeS, hn]; simp
      rw [ht]
      refine AC.N Try.func130 Try.ntmps130 ?_
      intro X
      simp only [nx, Nat.reduceAdd, Nat.reduceSub, BEq.rfl]
      repeat' (first
        | ((first
        | ((with_reducible apply AP.k_any); first
                 | refine AP.S ?_
                 | (refine AP.Y ?_; dsimp only) | refine AP.G (fun hg => ?_) (fun hg => ?_)
          )
        | ((with_reducible apply AP.k_any); refine AP.CB [(0, 0)] 0 (fine_ac (0, b)) ?_)
            | ((with_reducible apply AP.k_any); refine AP.CB [(0, 0)] 0 (rbad_ac (0, b)) ?_)
        )
          <;> (try simp only [nx, Nat.reduceAdd, Nat.reduceSub, BEq.rfl]))
        | ((with_reducible apply AP.k_nil); first
            | (refine AP.nil (hQ' _ ?_); clear hQ' Q')
            | refine AP.nil ?_)
        | ((with_reducible apply CP.k_reg); refine cp_regG fun Q' hQ' => ?_)
          | (with_reducible apply CP.k_reg1; refine cp_region ?_)
          | ((with_reducible apply CP.k_cond); first | refine cp_condT rfl ?_ | refine cp_condF rfl ?_ | refine cp_cond rfl (fun hc => ?_) (fun hc => ?_))
          | refine CP.go ?_
          | (simp only [List.append_eq, List.cons_append, List.nil_append]))
      all_goals first
        | (exfalso; simp at *; done)
        | (exfalso; simp at *; omega)
        | (exact RetQ.A [(0, 0)] (by exact ⟨rfl, rfl⟩))
    · have hl : (b.take n.toNat).length = n.toNat := by simp; omega
      have hf' := hf (b.take n.toNat) hl (by rw [List.length_take]; exact Nat.min_le_right _ _)
      have htk : List.take (b.length - n.toNat) (List.drop n.toNat b) = List.drop n.toNat b := List.take_of_length_le (by simp)
      have hn0 : 0 ≤ n := by omega
      have hn1 : n ≤ (b.length : Int) := by omega
      have hm : n ≤ ((b.map eB).length : Int) := by simp; omega
      have ht : takeS ([] : List UInt8) g n (0, b) = if (g (b.take n.toNat)).2 = true then ((g (b.take n.toNat)).1, (0, b.drop n.toNat)) else (([] : List UInt8), (40, [])) := by simp only [takeS, hn]; simp
      rw [ht]
      cases hg2 : (g (b.take n.toNat)).2 with
      | true =>
        rw [hg2] at hf'
        simp only [if_true]
        refine AC.N Try.func130 Try.ntmps130 ?_
        intro X
        simp only [nx, Nat.reduceAdd, Nat.reduceSub, BEq.rfl]
        repeat' (first
          | ((first
          | ((with_reducible apply AP.k_any); first
                   | refine AP.S ?_
                   | (refine AP.Y ?_; dsimp only) | refine AP.G (fun hg => ?_) (fun hg => ?_)
            )
          | ((with_reducible apply AP.k_any); refine AP.CB [(0, 0)] 0 (fine_ac (0, b)) ?_)
                | ((with_reducible apply AP.k_any); refine ap_callX rfl rfl (fn := f) rfl hf' (by (repeat' (first | exact PasC.nil | apply PasC.nil | apply PasC.cons | apply PasV.leaf rfl | apply PasV.nl | apply PasV.bp rfl | apply PasV.lend rfl rfl rfl | apply PasV.lend rfl rfl (ro_B _) | apply PasV.lend rfl rfl (ro_M _) | apply PasV.lend rfl rfl (ro_E _ _) | apply PasV.lend rfl rfl (ro_I _) | apply PasV.mv rfl | apply PasV.ag | apply PasV.fn | exact PasV.fs | apply PasV.any))) rfl rfl ?_)
                | ((with_reducible apply AP.k_any); refine AP.CB [(0, 0)] 0 (rbad_ac (0, b)) ?_)
          )
            <;> (try simp only [nx, Nat.reduceAdd, Nat.reduceSub, BEq.rfl]))
          | ((with_reducible apply AP.k_nil); first
              | (refine AP.nil (hQ' _ ?_); clear hQ' Q')
              | refine AP.nil ?_)
          | ((with_reducible apply CP.k_reg); refine cp_regG fun Q' hQ' => ?_)
            | (with_reducible apply CP.k_reg1; refine cp_region ?_)
            | ((with_reducible apply CP.k_cond); first | refine cp_condT rfl ?_ | refine cp_condF rfl ?_ | refine cp_cond rfl (fun hc => ?_) (fun hc => ?_))
            | refine CP.go ?_
            | (simp only [List.append_eq, List.cons_append, List.nil_append]))
        all_goals first
          | (exfalso; simp at *; done)
          | (exfalso; simp at *; omega)
          | (simp only [htk]
             (exact RetQ.A [(0, 0)] (by exact ⟨rfl, rfl⟩)))
      | false =>
        rw [hg2] at hf'
        simp only [Bool.false_eq_true, if_false]
        refine AC.N Try.func130 Try.ntmps130 ?_
        intro X
        simp only [nx, Nat.reduceAdd, Nat.reduceSub, BEq.rfl]
        repeat' (first
          | ((first
          | ((with_reducible apply AP.k_any); first
                   | refine AP.S ?_
                   | (refine AP.Y ?_; dsimp only) | refine AP.G (fun hg => ?_) (fun hg => ?_)
            )
          | ((with_reducible apply AP.k_any); refine AP.CB [(0, 0)] 0 (fine_ac (0, b)) ?_)
                | ((with_reducible apply AP.k_any); refine ap_callX rfl rfl (fn := f) rfl hf' (by (repeat' (first | exact PasC.nil | apply PasC.nil | apply PasC.cons | apply PasV.leaf rfl | apply PasV.nl | apply PasV.bp rfl | apply PasV.lend rfl rfl rfl | apply PasV.lend rfl rfl (ro_B _) | apply PasV.lend rfl rfl (ro_M _) | apply PasV.lend rfl rfl (ro_E _ _) | apply PasV.lend rfl rfl (ro_I _) | apply PasV.mv rfl | apply PasV.ag | apply PasV.fn | exact PasV.fs | apply PasV.any))) rfl rfl ?_)
                | ((with_reducible apply AP.k_any); refine AP.CB [(0, 0)] 0 (rbad_ac (0, b)) ?_)
          )
            <;> (try simp only [nx, Nat.reduceAdd, Nat.reduceSub, BEq.rfl]))
          | ((with_reducible apply AP.k_nil); first
              | (refine AP.nil (hQ' _ ?_); clear hQ' Q')
              | refine AP.nil ?_)
          | ((with_reducible apply CP.k_reg); refine cp_regG fun Q' hQ' => ?_)
            | (with_reducible apply CP.k_reg1; refine cp_region ?_)
            | ((with_reducible apply CP.k_cond); first | refine cp_condT rfl ?_ | refine cp_condF rfl ?_ | refine cp_cond rfl (fun hc => ?_) (fun hc => ?_))
            | refine CP.go ?_
            | (simp only [List.append_eq, List.cons_append, List.nil_append]))
        all_goals first
          | (exfalso; simp at *; done)
          | (exfalso; simp at *; omega)
          | (exact RetQ.A [(0, 0)] (by exact ⟨rfl, rfl⟩))
  · have ht : takeS ([] : List UInt8) g n (e, b) = (([] : List UInt8), (e, b)) := by simp [takeS, he]
    have hb : ((e : Int) == 0) = false := by simp [he]
    rw [ht]
    refine AC.N Try.func130 Try.ntmps130 ?_
    intro X
    simp only [nx, Nat.reduceAdd, Nat.reduceSub, BEq.rfl]
    repeat' (first
      | ((first
      | ((with_reducible apply AP.k_any); first
               | refine AP.S ?_
               | (refine AP.Y ?_; dsimp only) | refine AP.G (fun hg => ?_) (fun hg => ?_)
        )
      | ((with_reducible apply AP.k_any); refine AP.CB [(0, 0)] 0 (fine_ac (e, b)) ?_)
      )
        <;> (try simp only [nx, Nat.reduceAdd, Nat.reduceSub, BEq.rfl]))
      | ((with_reducible apply AP.k_nil); first
          | (refine AP.nil (hQ' _ ?_); clear hQ' Q')
          | refine AP.nil ?_)
      | ((with_reducible apply CP.k_reg); refine cp_regG fun Q' hQ' => ?_)
        | (with_reducible apply CP.k_reg1; refine cp_region ?_)
        | ((with_reducible apply CP.k_cond); first | refine cp_condT rfl ?_ | refine cp_condF rfl ?_ | refine cp_cond rfl (fun hc => ?_) (fun hc => ?_))
        | refine CP.go ?_
        | (simp only [List.append_eq, List.cons_append, List.nil_append]))
    all_goals first
      | (exfalso; simp at *; done)
      | (exfalso; simp at *; omega)
      | (exact RetQ.A [(0, 0)] (by exact ⟨rfl, rfl⟩))
abbrev iB (x : Int) : Bx := .c 3 [I x]
theorem take5_ac (m l : Int) (f : Nat) (g : List UInt8 → Int × Bool) (n : Int) (st : Int × List UInt8) (hst : st.2.length ≤ 100000000) (hf : ∀ b : List UInt8, b.length = n.toNat → b.length ≤ st.2.length → AC Try.prog f [bs none b, .bp 0 0 0, .bp 1 0 0] [iB m, iB l] (fun v bs' => v = .tu [I (g b).1, B (g b).2] ∧ bs' = [iB m, iB l])) :
    AC Try.prog 102 [.bp 0 0 0, I n, .fn f [.bp 1 0 0, .bp 2 0 0]] [rB st, iB m, iB l] (fun v bs' => v = I (takeS (0 : Int) g n st).1 ∧ bs' = [rB (takeS (0 : Int) g n st).2, iB m, iB l]) := by
  obtain ⟨e, b⟩ := st
  by_cases he : e = 0
  · subst he
    by_cases hn : n < 0 ∨ (b.length : Int) < n
    · have ht : takeS (0 : Int) g n (0, b) = ((0 : Int), (40, [])) := by simp only [takeS, hn]; simp
      rw [ht]
      refine AC.N Try.func102 Try.ntmps102 ?_
      intro X
      simp only [nx, Nat.reduceAdd, Nat.reduceSub, BEq.rfl]
      repeat' (first
        | ((first
        | ((with_reducible apply AP.k_any); first
                 | refine AP.S ?_
                 | (refine AP.Y ?_; dsimp only) | refine AP.G (fun hg => ?_) (fun hg => ?_)
          )
        | ((with_reducible apply AP.k_any); refine AP.CB [(0, 0)] 0 (fine_ac (0, b)) ?_)
            | ((with_reducible apply AP.k_any); refine AP.CB [(0, 0)] 0 (rbad_ac (0, b)) ?_)
        )
          <;> (try simp only [nx, Nat.reduceAdd, Nat.reduceSub, BEq.rfl]))
        | ((with_reducible apply AP.k_nil); first
            | (refine AP.nil (hQ' _ ?_); clear hQ' Q')
            | refine AP.nil ?_)
        | ((with_reducible apply CP.k_reg); refine cp_regG fun Q' hQ' => ?_)
          | (with_reducible apply CP.k_reg1; refine cp_region ?_)
          | ((with_reducible apply CP.k_cond); first | refine cp_condT rfl ?_ | refine cp_condF rfl ?_ | refine cp_cond rfl (fun hc => ?_) (fun hc => ?_))
          | refine CP.go ?_
          | (simp only [List.append_eq, List.cons_append, List.nil_append]))
      all_goals first
        | (exfalso; simp at *; done)
        | (exfalso; simp at *; omega)
        | (exact RetQ.A [(0, 0), (1, 0), (2, 0)] (by exact ⟨rfl, rfl⟩))
    · have hl : (b.take n.toNat).length = n.toNat := by simp; omega
      have hf' := hf (b.take n.toNat) hl (by rw [List.length_take]; exact Nat.min_le_right _ _)
      have htk : List.take (b.length - n.toNat) (List.drop n.toNat b) = List.drop n.toNat b := List.take_of_length_le (by simp)
      have hn0 : 0 ≤ n := by omega
      have hn1 : n ≤ (b.length : Int) := by omega
      have hm : n ≤ ((b.map eB).length : Int) := by simp; omega
      have ht : takeS (0 : Int) g n (0, b) = if (g (b.take n.toNat)).2 = true then ((g (b.take n.toNat)).1, (0, b.drop n.toNat)) else ((0 : Int), (40, [])) := by simp only [takeS, hn]; simp
      rw [ht]
      cases hg2 : (g (b.take n.toNat)).2 with
      | true =>
        rw [hg2] at hf'
        simp only [if_true]
        refine AC.N Try.func102 Try.ntmps102 ?_
        intro X
        simp only [nx, Nat.reduceAdd, Nat.reduceSub, BEq.rfl]
        repeat' (first
          | ((first
          | ((with_reducible apply AP.k_any); first
                   | refine AP.S ?_
                   | (refine AP.Y ?_; dsimp only) | refine AP.G (fun hg => ?_) (fun hg => ?_)
            )
          | ((with_reducible apply AP.k_any); refine AP.CB [(0, 0)] 0 (fine_ac (0, b)) ?_)
                | ((with_reducible apply AP.k_any); refine ap_callB 0 [(1, 0), (2, 0)] rfl rfl (fn := f) rfl hf' (by (repeat' (first | exact PasC.nil | apply PasC.nil | apply PasC.cons | apply PasV.leaf rfl | apply PasV.nl | apply PasV.bp rfl | apply PasV.lend rfl rfl rfl | apply PasV.lend rfl rfl (ro_B _) | apply PasV.lend rfl rfl (ro_M _) | apply PasV.lend rfl rfl (ro_E _ _) | apply PasV.lend rfl rfl (ro_I _) | apply PasV.mv rfl | apply PasV.ag | apply PasV.fn | exact PasV.fs | apply PasV.any))) (by (repeat' (first | exact Out.nil | apply Out.cons rfl | exact ClsC.nil | apply ClsC.nl | apply ClsC.leaf rfl | apply ClsC.hd rfl | apply ClsC.fn | apply ClsC.fz rfl (ro_B _) | apply ClsC.fz rfl (ro_M _) | apply ClsC.fz rfl (ro_E _ _) | apply ClsC.fz rfl rfl))) rfl (by (repeat' (first | exact Bk.nil | apply Bk.cons rfl rfl rfl))) (by (repeat' (first | exact RnV.leaf rfl | exact RnC.nil | apply RnC.cons | apply RnV.ag | apply RnV.tu | exact RnV.bp rfl))) rfl ?_)
                | ((with_reducible apply AP.k_any); refine AP.CB [(0, 0)] 0 (rbad_ac (0, b)) ?_)
          )
            <;> (try simp only [nx, Nat.reduceAdd, Nat.reduceSub, BEq.rfl]))
          | ((with_reducible apply AP.k_nil); first
              | (refine AP.nil (hQ' _ ?_); clear hQ' Q')
              | refine AP.nil ?_)
          | ((with_reducible apply CP.k_reg); refine cp_regG fun Q' hQ' => ?_)
            | (with_reducible apply CP.k_reg1; refine cp_region ?_)
            | ((with_reducible apply CP.k_cond); first | refine cp_condT rfl ?_ | refine cp_condF rfl ?_ | refine cp_cond rfl (fun hc => ?_) (fun hc => ?_))
            | refine CP.go ?_
            | (simp only [List.append_eq, List.cons_append, List.nil_append]))
        all_goals first
          | (exfalso; simp at *; done)
          | (exfalso; simp at *; omega)
          | (simp only [htk]
             (exact RetQ.A [(0, 0), (1, 0), (2, 0)] (by exact ⟨rfl, rfl⟩)))
      | false =>
        rw [hg2] at hf'
        simp only [Bool.false_eq_true, if_false]
        refine AC.N Try.func102 Try.ntmps102 ?_
        intro X
        simp only [nx, Nat.reduceAdd, Nat.reduceSub, BEq.rfl]
        repeat' (first
          | ((first
          | ((with_reducible apply AP.k_any); first
                   | refine AP.S ?_
                   | (refine AP.Y ?_; dsimp only) | refine AP.G (fun hg => ?_) (fun hg => ?_)
            )
          | ((with_reducible apply AP.k_any); refine AP.CB [(0, 0)] 0 (fine_ac (0, b)) ?_)
                | ((with_reducible apply AP.k_any); refine ap_callB 0 [(1, 0), (2, 0)] rfl rfl (fn := f) rfl hf' (by (repeat' (first | exact PasC.nil | apply PasC.nil | apply PasC.cons | apply PasV.leaf rfl | apply PasV.nl | apply PasV.bp rfl | apply PasV.lend rfl rfl rfl | apply PasV.lend rfl rfl (ro_B _) | apply PasV.lend rfl rfl (ro_M _) | apply PasV.lend rfl rfl (ro_E _ _) | apply PasV.lend rfl rfl (ro_I _) | apply PasV.mv rfl | apply PasV.ag | apply PasV.fn | exact PasV.fs | apply PasV.any))) (by (repeat' (first | exact Out.nil | apply Out.cons rfl | exact ClsC.nil | apply ClsC.nl | apply ClsC.leaf rfl | apply ClsC.hd rfl | apply ClsC.fn | apply ClsC.fz rfl (ro_B _) | apply ClsC.fz rfl (ro_M _) | apply ClsC.fz rfl (ro_E _ _) | apply ClsC.fz rfl rfl))) rfl (by (repeat' (first | exact Bk.nil | apply Bk.cons rfl rfl rfl))) (by (repeat' (first | exact RnV.leaf rfl | exact RnC.nil | apply RnC.cons | apply RnV.ag | apply RnV.tu | exact RnV.bp rfl))) rfl ?_)
                | ((with_reducible apply AP.k_any); refine AP.CB [(0, 0)] 0 (rbad_ac (0, b)) ?_)
          )
            <;> (try simp only [nx, Nat.reduceAdd, Nat.reduceSub, BEq.rfl]))
          | ((with_reducible apply AP.k_nil); first
              | (refine AP.nil (hQ' _ ?_); clear hQ' Q')
              | refine AP.nil ?_)
          | ((with_reducible apply CP.k_reg); refine cp_regG fun Q' hQ' => ?_)
            | (with_reducible apply CP.k_reg1; refine cp_region ?_)
            | ((with_reducible apply CP.k_cond); first | refine cp_condT rfl ?_ | refine cp_condF rfl ?_ | refine cp_cond rfl (fun hc => ?_) (fun hc => ?_))
            | refine CP.go ?_
            | (simp only [List.append_eq, List.cons_append, List.nil_append]))
        all_goals first
          | (exfalso; simp at *; done)
          | (exfalso; simp at *; omega)
          | (exact RetQ.A [(0, 0), (1, 0), (2, 0)] (by exact ⟨rfl, rfl⟩))
  · have ht : takeS (0 : Int) g n (e, b) = ((0 : Int), (e, b)) := by simp [takeS, he]
    have hb : ((e : Int) == 0) = false := by simp [he]
    rw [ht]
    refine AC.N Try.func102 Try.ntmps102 ?_
    intro X
    simp only [nx, Nat.reduceAdd, Nat.reduceSub, BEq.rfl]
    repeat' (first
      | ((first
      | ((with_reducible apply AP.k_any); first
               | refine AP.S ?_
               | (refine AP.Y ?_; dsimp only) | refine AP.G (fun hg => ?_) (fun hg => ?_)
        )
      | ((with_reducible apply AP.k_any); refine AP.CB [(0, 0)] 0 (fine_ac (e, b)) ?_)
      )
        <;> (try simp only [nx, Nat.reduceAdd, Nat.reduceSub, BEq.rfl]))
      | ((with_reducible apply AP.k_nil); first
          | (refine AP.nil (hQ' _ ?_); clear hQ' Q')
          | refine AP.nil ?_)
      | ((with_reducible apply CP.k_reg); refine cp_regG fun Q' hQ' => ?_)
        | (with_reducible apply CP.k_reg1; refine cp_region ?_)
        | ((with_reducible apply CP.k_cond); first | refine cp_condT rfl ?_ | refine cp_condF rfl ?_ | refine cp_cond rfl (fun hc => ?_) (fun hc => ?_))
        | refine CP.go ?_
        | (simp only [List.append_eq, List.cons_append, List.nil_append]))
    all_goals first
      | (exfalso; simp at *; done)
      | (exfalso; simp at *; omega)
      | (exact RetQ.A [(0, 0), (1, 0), (2, 0)] (by exact ⟨rfl, rfl⟩))
end Go.Proofs.Ytkdbedbefojieaa

namespace Go.Proofs.Ytkdbedbefojieaa
set_option linter.unusedVariables false
set_option linter.unusedSimpArgs false
set_option maxHeartbeats 8000000
open Go.RowKit
set_option maxRecDepth 100000
theorem load64_ac (b : List UInt8) (hb : b.length ≤ 100000000) : AC Try.prog 104 [bs none b, I 0] [] (fun v bs' => v = .tu [.sc (.int .u64 ((loadS b 0 8).1 : Int)), B (loadS b 0 8).2] ∧ bs' = []) := by
  have h := load_ac b 0 8 (by omega) hb (by omega) (by omega)
  refine AC.N Try.func104 Try.ntmps104 ?_
  intro X
  simp only [nx, Nat.reduceAdd, Nat.reduceSub, BEq.rfl]
  repeat' (first
    | ((first
    | ((with_reducible apply AP.k_any); first
             | refine AP.S ?_
      )
    | ((with_reducible apply AP.k_any); refine AP.C (h) ?_)
    )
      <;> (try simp only [nx, Nat.reduceAdd, Nat.reduceSub, BEq.rfl]))
    | ((with_reducible apply AP.k_nil); first
        | (refine AP.nil (hQ' _ ?_); clear hQ' Q')
        | refine AP.nil ?_)
    | ((with_reducible apply CP.k_reg); refine cp_regG fun Q' hQ' => ?_)
      | (with_reducible apply CP.k_reg1; refine cp_region ?_)
      | ((with_reducible apply CP.k_cond); first | refine cp_condT rfl ?_ | refine cp_condF rfl ?_ | refine cp_cond rfl (fun hc => ?_) (fun hc => ?_))
      | refine CP.go ?_
      | (simp only [List.append_eq, List.cons_append, List.nil_append]))
  (refine RetQ.B [] ?_; (try dsimp only [resV, List.getD_cons_succ, List.getD_cons_zero]); (exact ⟨rfl, rfl⟩))
theorem load32_ac (b : List UInt8) (hb : b.length ≤ 100000000) : AC Try.prog 129 [bs none b, I 0] [] (fun v bs' => v = .tu [.sc (.int .u32 ((loadS b 0 4).1 : Int)), B (loadS b 0 4).2] ∧ bs' = []) := by
  have h := load_ac b 0 4 (by omega) hb (by omega) (by omega)
  have hw : IntKind.u32.wrap ((loadS b 0 4).1 : Int) = ((loadS b 0 4).1 : Int) := by
    have h1 : (loadS b 0 4).1 < 4294967296 := by
      unfold loadS
      split
      · simp
      · have := beN_lt ((b.drop (0 : Int).toNat).take 4)
        have h2 : 256 ^ ((b.drop (0 : Int).toNat).take 4).length ≤ 256 ^ 4 := Nat.pow_le_pow_right (by omega) (by simp; omega)
        simp at this h2 ⊢
        omega
    simp [IntKind.wrap, IntKind.bits, IntKind.signed]; omega
  refine AC.N Try.func129 Try.ntmps129 ?_
  intro X
  simp only [nx, Nat.reduceAdd, Nat.reduceSub, BEq.rfl]
  repeat' (first
    | ((first
    | ((with_reducible apply AP.k_any); first
             | refine AP.S ?_
      )
    | ((with_reducible apply AP.k_any); refine AP.C (h) ?_)
    )
      <;> (try simp only [nx, Nat.reduceAdd, Nat.reduceSub, BEq.rfl]))
    | ((with_reducible apply AP.k_nil); first
        | (refine AP.nil (hQ' _ ?_); clear hQ' Q')
        | refine AP.nil ?_)
    | ((with_reducible apply CP.k_reg); refine cp_regG fun Q' hQ' => ?_)
      | (with_reducible apply CP.k_reg1; refine cp_region ?_)
      | ((with_reducible apply CP.k_cond); first | refine cp_condT rfl ?_ | refine cp_condF rfl ?_ | refine cp_cond rfl (fun hc => ?_) (fun hc => ?_))
      | refine CP.go ?_
      | (simp only [List.append_eq, List.cons_append, List.nil_append]))
  simp only [hw]
  (refine RetQ.B [] ?_; (try dsimp only [resV, List.getD_cons_succ, List.getD_cons_zero]); (exact ⟨rfl, rfl⟩))
theorem loadS_all {b : List UInt8} {n : Nat} (h : b.length = n) : loadS b 0 n = (beN b, true) := by
  have h1 : ¬ ((0 : Int) < 0 ∨ (b.length : Int) - n < 0) := by omega
  simp only [loadS, if_neg h1]
  simp [← h]
def toI (n : Nat) : Int := IntKind.i64.wrap n
def byteG (b : List UInt8) : UInt8 × Bool := (b.headD 0, true)
def intG (b : List UInt8) : Int × Bool := (toI (beN b), true)
def flagG (b : List UInt8) : Bool × Bool := (b.headD 0 == 1, decide (b.headD 0 ≤ 1))
def lenG (b : List UInt8) : Int × Bool := (beN b, decide (beN b ≤ 65536))
def bytesG (b : List UInt8) : List UInt8 × Bool := (b, true)
def countG (m l : Int) (b : List UInt8) : Int × Bool := (toI (beN b), decide (0 ≤ toI (beN b)) && decide (toI (beN b) ≤ m) && decide (toI (beN b) ≤ l))
theorem len1 {b : List UInt8} (h : b.length = 1) : ∃ x, b = [x] := by
  match b, h with
  | [x], _ => exact ⟨x, rfl⟩
theorem rbyte1_ac (b : List UInt8) (h : b.length = 1) : AC Try.prog 100 [bs none b] [] (fun v bs' => v = .tu [U (byteG b).1, B (byteG b).2] ∧ bs' = []) := by
  obtain ⟨x, rfl⟩ := len1 h
  refine AC.N Try.func100 Try.ntmps100 ?_
  intro X
  simp only [nx, Nat.reduceAdd, Nat.reduceSub, BEq.rfl]
  repeat' (first
    | ((first
    | ((with_reducible apply AP.k_any); first
             | refine AP.S ?_
             | refine AP.E ?_
      )
    
    
    )
      <;> (try simp only [nx, Nat.reduceAdd, Nat.reduceSub, BEq.rfl]))
    | ((with_reducible apply AP.k_nil); first
        | (refine AP.nil (hQ' _ ?_); clear hQ' Q')
        | refine AP.nil ?_)
    | ((with_reducible apply CP.k_reg); refine cp_regG fun Q' hQ' => ?_)
      | (with_reducible apply CP.k_reg1; refine cp_region ?_)
      | ((with_reducible apply CP.k_cond); first | refine cp_condT rfl ?_ | refine cp_condF rfl ?_ | refine cp_cond rfl (fun hc => ?_) (fun hc => ?_))
      | refine CP.go ?_
      | (simp only [List.append_eq, List.cons_append, List.nil_append]))
  (refine RetQ.B [] ?_; (try dsimp only [resV, List.getD_cons_succ, List.getD_cons_zero]); (exact ⟨rfl, rfl⟩))
theorem rint1_ac (b : List UInt8) (h : b.length = 8) : AC Try.prog 103 [bs none b] [] (fun v bs' => v = .tu [I (intG b).1, B (intG b).2] ∧ bs' = []) := by
  have hl := load64_ac b (by omega)
  rw [loadS_all h] at hl
  refine AC.N Try.func103 Try.ntmps103 ?_
  intro X
  simp only [nx, Nat.reduceAdd, Nat.reduceSub, BEq.rfl]
  repeat' (first
    | ((first
    | ((with_reducible apply AP.k_any); first
             | refine AP.S ?_
      )
    | ((with_reducible apply AP.k_any); refine AP.C (hl) ?_)
    )
      <;> (try simp only [nx, Nat.reduceAdd, Nat.reduceSub, BEq.rfl]))
    | ((with_reducible apply AP.k_nil); first
        | (refine AP.nil (hQ' _ ?_); clear hQ' Q')
        | refine AP.nil ?_)
    | ((with_reducible apply CP.k_reg); refine cp_regG fun Q' hQ' => ?_)
      | (with_reducible apply CP.k_reg1; refine cp_region ?_)
      | ((with_reducible apply CP.k_cond); first | refine cp_condT rfl ?_ | refine cp_condF rfl ?_ | refine cp_cond rfl (fun hc => ?_) (fun hc => ?_))
      | refine CP.go ?_
      | (simp only [List.append_eq, List.cons_append, List.nil_append]))
  (refine RetQ.B [] ?_; (try dsimp only [resV, List.getD_cons_succ, List.getD_cons_zero]); (exact ⟨rfl, rfl⟩))
theorem rflag1_ac (b : List UInt8) (h : b.length = 1) : AC Try.prog 106 [bs none b] [] (fun v bs' => v = .tu [B (flagG b).1, B (flagG b).2] ∧ bs' = []) := by
  obtain ⟨x, rfl⟩ := len1 h
  refine AC.N Try.func106 Try.ntmps106 ?_
  intro X
  simp only [nx, Nat.reduceAdd, Nat.reduceSub, BEq.rfl]
  repeat' (first
    | ((first
    | ((with_reducible apply AP.k_any); first
             | refine AP.S ?_
             | refine AP.E ?_
             | (refine AP.V (fun c hnil => ?_); simp only [nz])
      )
    
    | ((with_reducible apply AQ.k_any); first
                    | refine AQ.S ?_
                    | refine AQ.E ?_
      )
    )
      <;> (try simp only [nx, Nat.reduceAdd, Nat.reduceSub, BEq.rfl]))
    | ((with_reducible apply AP.k_nil); first
        | (refine AP.nil (hQ' _ ?_); clear hQ' Q')
        | refine AP.nil ?_)
    | ((with_reducible apply AQ.k_nil); first | (refine AQ.nil (hQ' _ ?_); clear hQ' Q') | refine AQ.nil ?_)
    | ((with_reducible apply CP.k_drw); refine cp_drw (by kernel_rfl) (by kernel_rfl) fun Q' hQ' => ?_)
    | ((with_reducible apply CP.k_drw1); refine cp_draw (by kernel_rfl) (by kernel_rfl) ?_)
    | ((with_reducible apply CP.k_reg); refine cp_regG fun Q' hQ' => ?_)
      | (with_reducible apply CP.k_reg1; refine cp_region ?_)
      | ((with_reducible apply CP.k_cond); first | refine cp_condT rfl ?_ | refine cp_condF rfl ?_ | refine cp_cond rfl (fun hc => ?_) (fun hc => ?_))
      | refine CP.go ?_
      | (simp only [List.append_eq, List.cons_append, List.nil_append]))
  (refine RetQ.B [] ?_; (try dsimp only [resV, List.getD_cons_succ, List.getD_cons_zero]); ((refine ⟨?_, rfl⟩; simp [flagG, UInt8.le_iff_toNat_le, beq_iff_eq]; try (rw [Bool.eq_iff_iff]; simp [← UInt8.toNat_inj]; try omega))))
theorem rlen1_ac (b : List UInt8) (h : b.length = 4) : AC Try.prog 128 [bs none b] [] (fun v bs' => v = .tu [I (lenG b).1, B (lenG b).2] ∧ bs' = []) := by
  have hl := load32_ac b (by omega)
  rw [loadS_all h] at hl
  have hb := beN_lt b
  rw [h] at hb
  have hw : IntKind.i64.wrap (beN b : Int) = (beN b : Int) := wrap_i64 (by omega) (by omega)
  refine AC.N Try.func128 Try.ntmps128 ?_
  intro X
  simp only [nx, Nat.reduceAdd, Nat.reduceSub, BEq.rfl]
  repeat' (first
    | ((first
    | ((with_reducible apply AP.k_any); first
             | refine AP.S ?_
      )
    | ((with_reducible apply AP.k_any); refine AP.C (hl) ?_)
    )
      <;> (try simp only [nx, Nat.reduceAdd, Nat.reduceSub, BEq.rfl]))
    | ((with_reducible apply AP.k_nil); first
        | (refine AP.nil (hQ' _ ?_); clear hQ' Q')
        | refine AP.nil ?_)
    | ((with_reducible apply CP.k_reg); refine cp_regG fun Q' hQ' => ?_)
      | (with_reducible apply CP.k_reg1; refine cp_region ?_)
      | ((with_reducible apply CP.k_cond); first | refine cp_condT rfl ?_ | refine cp_condF rfl ?_ | refine cp_cond rfl (fun hc => ?_) (fun hc => ?_))
      | refine CP.go ?_
      | (simp only [List.append_eq, List.cons_append, List.nil_append]))
  simp only [hw]
  (refine RetQ.B [] ?_; (try dsimp only [resV, List.getD_cons_succ, List.getD_cons_zero]); ((refine ⟨?_, rfl⟩; simp [lenG]; try omega)))
theorem rbytes1_ac (b : List UInt8) (h : b.length ≤ 100000000) : AC Try.prog 131 [bs none b] [] (fun v bs' => v = .tu [bs none (bytesG b).1, B (bytesG b).2] ∧ bs' = []) := by
  have hcat := (wcat_ac [b] (by simp) (by simp; omega)).ro (r2 := bs none b) (by simp [AV.ro, ro_B])
  refine AC.N Try.func131 Try.ntmps131 ?_
  intro X
  simp only [nx, Nat.reduceAdd, Nat.reduceSub, BEq.rfl]
  repeat' (first
    | ((first
    | ((with_reducible apply AP.k_any); first
             | refine AP.Z ?_
      )
    | ((with_reducible apply AP.k_any); refine AP.C (hcat) ?_)
    | ((with_reducible apply AP.k_any); refine AP.gh (gh_fz (b := 0) (u := 1) rfl rfl (by (repeat' (first | exact FzC.nil | apply FzC.cons | exact FzV.hd | apply FzV.ag | exact FzV.same))) (by (repeat' (first | exact FzB.nil | apply FzB.c | apply FzB.same | exact FzC.nil | apply FzC.cons | exact FzV.hd | apply FzV.ag | exact FzV.same)))) ?_; first | simp only [roE, roC, AV.ro, ro_B, ro_M, ro_E] | simp only [roE, roC, AV.ro, ro_B])
    )
      <;> (try simp only [nx, Nat.reduceAdd, Nat.reduceSub, BEq.rfl]))
    | ((with_reducible apply AP.k_nil); first
        | (refine AP.nil (hQ' _ ?_); clear hQ' Q')
        | refine AP.nil ?_)
    | ((with_reducible apply CP.k_reg); refine cp_regG fun Q' hQ' => ?_)
      | (with_reducible apply CP.k_reg1; refine cp_region ?_)
      | ((with_reducible apply CP.k_cond); first | refine cp_condT rfl ?_ | refine cp_condF rfl ?_ | refine cp_cond rfl (fun hc => ?_) (fun hc => ?_))
      | refine CP.go ?_
      | (simp only [List.append_eq, List.cons_append, List.nil_append]))
  (refine RetQ.B [] ?_; (try dsimp only [resV, List.getD_cons_succ, List.getD_cons_zero]); (exact ⟨rfl, rfl⟩))
theorem rcount1_ac (m l : Int) (b : List UInt8) (h : b.length = 8) : AC Try.prog 123 [bs none b, .bp 0 0 0, .bp 1 0 0] [iB m, iB l] (fun v bs' => v = .tu [I (countG m l b).1, B (countG m l b).2] ∧ bs' = [iB m, iB l]) := by
  have hl := load64_ac b (by omega)
  rw [loadS_all h] at hl
  refine AC.N Try.func123 Try.ntmps123 ?_
  intro X
  simp only [nx, Nat.reduceAdd, Nat.reduceSub, BEq.rfl]
  repeat' (first
    | ((first
    | ((with_reducible apply AP.k_any); first
             | refine AP.S ?_
             | (refine AP.Y ?_; dsimp only) | refine AP.G (fun hg => ?_) (fun hg => ?_)
      )
    | ((with_reducible apply AP.k_any); refine AP.C (hl) ?_)
    | ((with_reducible apply AQ.k_any); first
                    | refine AQ.S ?_
                    | (refine AQ.Y ?_; dsimp only) | refine AQ.G (fun hg => ?_) (fun hg => ?_)
      )
    )
      <;> (try simp only [nx, Nat.reduceAdd, Nat.reduceSub, BEq.rfl]))
    | ((with_reducible apply AP.k_nil); first
        | (refine AP.nil (hQ' _ ?_); clear hQ' Q')
        | refine AP.nil ?_)
    | ((with_reducible apply AQ.k_nil); first | (refine AQ.nil (hQ' _ ?_); clear hQ' Q') | refine AQ.nil ?_)
    | ((with_reducible apply CP.k_drw); refine cp_drw (by kernel_rfl) (by kernel_rfl) fun Q' hQ' => ?_)
    | ((with_reducible apply CP.k_drw1); refine cp_draw (by kernel_rfl) (by kernel_rfl) ?_)
    | ((with_reducible apply CP.k_reg); refine cp_regG fun Q' hQ' => ?_)
      | (with_reducible apply CP.k_reg1; refine cp_region ?_)
      | ((with_reducible apply CP.k_cond); first | refine cp_condT rfl ?_ | refine cp_condF rfl ?_ | refine cp_cond rfl (fun hc => ?_) (fun hc => ?_))
      | refine CP.go ?_
      | (simp only [List.append_eq, List.cons_append, List.nil_append]))
  all_goals (refine RetQ.B [(0, 0), (1, 0)] ?_; (try dsimp only [resV, List.getD_cons_succ, List.getD_cons_zero]); ((refine ⟨?_, rfl⟩; simp at *; simp [countG, toI, *]; try (first | rfl | (intro h1; exfalso; have h2 := of_decide_eq_true h1; omega)))))
theorem takeS_len {α : Type} {z : α} {f : List UInt8 → α × Bool} {n : Int} {st : Int × List UInt8} {k : Nat} (h : st.2.length ≤ k) : (takeS z f n st).2.2.length ≤ k := by
  unfold takeS
  split
  · exact h
  · split
    · simp
    · split
      · simp; omega
      · simp
def byteR (st : Int × List UInt8) : UInt8 × (Int × List UInt8) := takeS 0 byteG 1 st
def intR (st : Int × List UInt8) : Int × (Int × List UInt8) := takeS 0 intG 8 st
def flagR (st : Int × List UInt8) : Bool × (Int × List UInt8) := takeS false flagG 1 st
def lenR (st : Int × List UInt8) : Int × (Int × List UInt8) := takeS 0 lenG 4 st
def bytesR (st : Int × List UInt8) : List UInt8 × (Int × List UInt8) := takeS [] bytesG (lenR st).1 (lenR st).2
def leftR (st : Int × List UInt8) : Int := if st.1 = 0 then st.2.length else 0
def countR (m : Int) (st : Int × List UInt8) : Int × (Int × List UInt8) := takeS 0 (countG m (leftR st - 8)) 8 st
def endR (st : Int × List UInt8) : Int := if st.1 = 0 then (if st.2 = [] then 0 else 40) else st.1
theorem rbyte_ac (st : Int × List UInt8) (hst : st.2.length ≤ 100000000) : AC Try.prog 64 [.bp 0 0 0] [rB st] (fun v bs' => v = U (byteR st).1 ∧ bs' = [rB (byteR st).2]) := by
  have h := take1_ac 100 byteG 1 st hst (fun b hb _ => rbyte1_ac b hb)
  refine AC.N Try.func64 Try.ntmps64 ?_
  intro X
  simp only [nx, Nat.reduceAdd, Nat.reduceSub, BEq.rfl]
  repeat' (first
    | ((first
    | ((with_reducible apply AP.k_any); first
             | refine AP.S ?_
      )
    | ((with_reducible apply AP.k_any); refine AP.CB [(0, 0)] 0 (h) ?_)
    )
      <;> (try simp only [nx, Nat.reduceAdd, Nat.reduceSub, BEq.rfl]))
    | ((with_reducible apply AP.k_nil); first
        | (refine AP.nil (hQ' _ ?_); clear hQ' Q')
        | refine AP.nil ?_)
    | ((with_reducible apply CP.k_reg); refine cp_regG fun Q' hQ' => ?_)
      | (with_reducible apply CP.k_reg1; refine cp_region ?_)
      | ((with_reducible apply CP.k_cond); first | refine cp_condT rfl ?_ | refine cp_condF rfl ?_ | refine cp_cond rfl (fun hc => ?_) (fun hc => ?_))
      | refine CP.go ?_
      | (simp only [List.append_eq, List.cons_append, List.nil_append]))
  (exact RetQ.A [(0, 0)] (by exact ⟨rfl, rfl⟩))
theorem rint_ac (st : Int × List UInt8) (hst : st.2.length ≤ 100000000) : AC Try.prog 66 [.bp 0 0 0] [rB st] (fun v bs' => v = I (intR st).1 ∧ bs' = [rB (intR st).2]) := by
  have h := take3_ac 103 intG 8 st hst (fun b hb _ => rint1_ac b hb)
  refine AC.N Try.func66 Try.ntmps66 ?_
  intro X
  simp only [nx, Nat.reduceAdd, Nat.reduceSub, BEq.rfl]
  repeat' (first
    | ((first
    | ((with_reducible apply AP.k_any); first
             | refine AP.S ?_
      )
    | ((with_reducible apply AP.k_any); refine AP.CB [(0, 0)] 0 (h) ?_)
    )
      <;> (try simp only [nx, Nat.reduceAdd, Nat.reduceSub, BEq.rfl]))
    | ((with_reducible apply AP.k_nil); first
        | (refine AP.nil (hQ' _ ?_); clear hQ' Q')
        | refine AP.nil ?_)
    | ((with_reducible apply CP.k_reg); refine cp_regG fun Q' hQ' => ?_)
      | (with_reducible apply CP.k_reg1; refine cp_region ?_)
      | ((with_reducible apply CP.k_cond); first | refine cp_condT rfl ?_ | refine cp_condF rfl ?_ | refine cp_cond rfl (fun hc => ?_) (fun hc => ?_))
      | refine CP.go ?_
      | (simp only [List.append_eq, List.cons_append, List.nil_append]))
  (exact RetQ.A [(0, 0)] (by exact ⟨rfl, rfl⟩))
theorem rflag_ac (st : Int × List UInt8) (hst : st.2.length ≤ 100000000) : AC Try.prog 67 [.bp 0 0 0] [rB st] (fun v bs' => v = B (flagR st).1 ∧ bs' = [rB (flagR st).2]) := by
  have h := take2_ac 106 flagG 1 st hst (fun b hb _ => rflag1_ac b hb)
  refine AC.N Try.func67 Try.ntmps67 ?_
  intro X
  simp only [nx, Nat.reduceAdd, Nat.reduceSub, BEq.rfl]
  repeat' (first
    | ((first
    | ((with_reducible apply AP.k_any); first
             | refine AP.S ?_
      )
    | ((with_reducible apply AP.k_any); refine AP.CB [(0, 0)] 0 (h) ?_)
    )
      <;> (try simp only [nx, Nat.reduceAdd, Nat.reduceSub, BEq.rfl]))
    | ((with_reducible apply AP.k_nil); first
        | (refine AP.nil (hQ' _ ?_); clear hQ' Q')
        | refine AP.nil ?_)
    | ((with_reducible apply CP.k_reg); refine cp_regG fun Q' hQ' => ?_)
      | (with_reducible apply CP.k_reg1; refine cp_region ?_)
      | ((with_reducible apply CP.k_cond); first | refine cp_condT rfl ?_ | refine cp_condF rfl ?_ | refine cp_cond rfl (fun hc => ?_) (fun hc => ?_))
      | refine CP.go ?_
      | (simp only [List.append_eq, List.cons_append, List.nil_append]))
  (exact RetQ.A [(0, 0)] (by exact ⟨rfl, rfl⟩))
theorem rbytes_ac (st : Int × List UInt8) (hst : st.2.length ≤ 100000000) : AC Try.prog 125 [.bp 0 0 0] [rB st] (fun v bs' => v = bs none (bytesR st).1 ∧ bs' = [rB (bytesR st).2]) := by
  have h := take3_ac 128 lenG 4 st hst (fun b hb _ => rlen1_ac b hb)
  have h2 := take4_ac 131 bytesG (lenR st).1 (lenR st).2 (takeS_len hst) (fun b _ hb => rbytes1_ac b (Nat.le_trans hb (takeS_len hst)))
  refine AC.N Try.func125 Try.ntmps125 ?_
  intro X
  simp only [nx, Nat.reduceAdd, Nat.reduceSub, BEq.rfl]
  repeat' (first
    | ((first
    | ((with_reducible apply AP.k_any); first
             | refine AP.S ?_
      )
    | ((with_reducible apply AP.k_any); refine AP.CB [(0, 0)] 0 (h) ?_)
    | ((with_reducible apply AP.k_any); refine AP.CB [(0, 0)] 0 (h2) ?_)
    )
      <;> (try simp only [nx, Nat.reduceAdd, Nat.reduceSub, BEq.rfl]))
    | ((with_reducible apply AP.k_nil); first
        | (refine AP.nil (hQ' _ ?_); clear hQ' Q')
        | refine AP.nil ?_)
    | ((with_reducible apply CP.k_reg); refine cp_regG fun Q' hQ' => ?_)
      | (with_reducible apply CP.k_reg1; refine cp_region ?_)
      | ((with_reducible apply CP.k_cond); first | refine cp_condT rfl ?_ | refine cp_condF rfl ?_ | refine cp_cond rfl (fun hc => ?_) (fun hc => ?_))
      | refine CP.go ?_
      | (simp only [List.append_eq, List.cons_append, List.nil_append]))
  (exact RetQ.A [(0, 0)] (by exact ⟨rfl, rfl⟩))
theorem rleft_ac (st : Int × List UInt8) : AC Try.prog 122 [.bp 0 0 0] [rB st] (fun v bs' => v = I (leftR st) ∧ bs' = [rB st]) := by
  refine AC.N Try.func122 Try.ntmps122 ?_
  intro X
  simp only [nx, Nat.reduceAdd, Nat.reduceSub, BEq.rfl]
  repeat' (first
    | ((first
    | ((with_reducible apply AP.k_any); first
             | refine AP.S ?_
      )
    | ((with_reducible apply AP.k_any); refine AP.CB [(0, 0)] 0 (fine_ac st) ?_)
    )
      <;> (try simp only [nx, Nat.reduceAdd, Nat.reduceSub, BEq.rfl]))
    | ((with_reducible apply AP.k_nil); first
        | (refine AP.nil (hQ' _ ?_); clear hQ' Q')
        | refine AP.nil ?_)
    | ((with_reducible apply CP.k_reg); refine cp_regG fun Q' hQ' => ?_)
      | (with_reducible apply CP.k_reg1; refine cp_region ?_)
      | ((with_reducible apply CP.k_cond); first | refine cp_condT rfl ?_ | refine cp_condF rfl ?_ | refine cp_cond rfl (fun hc => ?_) (fun hc => ?_))
      | refine CP.go ?_
      | (simp only [List.append_eq, List.cons_append, List.nil_append]))
  · (refine RetQ.B [(0, 0)] ?_; (try dsimp only [resV, List.getD_cons_succ, List.getD_cons_zero]); ((refine ⟨?_, rfl⟩; simp at *; simp [leftR, *])))
  · (refine RetQ.B [(0, 0)] ?_; (try dsimp only [resV, List.getD_cons_succ, List.getD_cons_zero]); ((refine ⟨?_, rfl⟩; simp at *; simp [leftR, *])))
theorem rcount_ac (m : Int) (st : Int × List UInt8) (hst : st.2.length ≤ 100000000) : AC Try.prog 101 [.bp 0 0 0, I m] [rB st] (fun v bs' => v = I (countR m st).1 ∧ bs' = [rB (countR m st).2]) := by
  have h := take5_ac m (leftR st - 8) 123 (countG m (leftR st - 8)) 8 st hst (fun b hb _ => rcount1_ac m _ b hb)
  have hw : IntKind.i64.wrap (leftR st - 8) = leftR st - 8 := by
    have : 0 ≤ leftR st ∧ leftR st ≤ 100000000 := by unfold leftR; split <;> omega
    exact wrap_i64 (by omega) (by omega)
  refine AC.N Try.func101 Try.ntmps101 ?_
  intro X
  simp only [nx, Nat.reduceAdd, Nat.reduceSub, BEq.rfl]
  repeat' (first
    | ((first
    | ((with_reducible apply AP.k_any); first
             | refine AP.S ?_
      )
    | ((with_reducible apply AP.k_any); refine AP.CB [(0, 0)] 0 (rleft_ac st) ?_)
    | ((with_reducible apply AP.k_any); simp only [hw]; refine ap_callB 0 [(0, 0), (1, 1), (2, 1)] rfl rfl (fn := 102) rfl (h) (by (repeat' (first | exact PasC.nil | apply PasC.nil | apply PasC.cons | apply PasV.leaf rfl | apply PasV.nl | apply PasV.bp rfl | apply PasV.lend rfl rfl rfl | apply PasV.lend rfl rfl (ro_B _) | apply PasV.lend rfl rfl (ro_M _) | apply PasV.lend rfl rfl (ro_E _ _) | apply PasV.lend rfl rfl (ro_I _) | apply PasV.mv rfl | apply PasV.ag | apply PasV.fn | exact PasV.fs | apply PasV.any))) (by (repeat' (first | exact Out.nil | apply Out.cons rfl | exact ClsC.nil | apply ClsC.nl | apply ClsC.leaf rfl | apply ClsC.hd rfl | apply ClsC.fn | apply ClsC.fz rfl (ro_B _) | apply ClsC.fz rfl (ro_M _) | apply ClsC.fz rfl (ro_E _ _) | apply ClsC.fz rfl rfl))) rfl (by (repeat' (first | exact Bk.nil | apply Bk.cons rfl rfl rfl))) (by (repeat' (first | exact RnV.leaf rfl | exact RnC.nil | apply RnC.cons | apply RnV.ag | apply RnV.tu | exact RnV.bp rfl))) rfl ?_)
    )
      <;> (try simp only [nx, Nat.reduceAdd, Nat.reduceSub, BEq.rfl]))
    | ((with_reducible apply AP.k_nil); first
        | (refine AP.nil (hQ' _ ?_); clear hQ' Q')
        | refine AP.nil ?_)
    | ((with_reducible apply CP.k_reg); refine cp_regG fun Q' hQ' => ?_)
      | (with_reducible apply CP.k_reg1; refine cp_region ?_)
      | ((with_reducible apply CP.k_cond); first | refine cp_condT rfl ?_ | refine cp_condF rfl ?_ | refine cp_cond rfl (fun hc => ?_) (fun hc => ?_))
      | refine CP.go ?_
      | (simp only [List.append_eq, List.cons_append, List.nil_append]))
  (exact RetQ.A [(0, 0)] (by exact ⟨rfl, rfl⟩))
theorem rerr_ac (st : Int × List UInt8) : AC Try.prog 108 [.bp 0 0 0] [rB st] (fun v bs' => v = I st.1 ∧ bs' = [rB st]) := by
  refine AC.N Try.func108 Try.ntmps108 ?_
  intro X
  simp only [nx, Nat.reduceAdd, Nat.reduceSub, BEq.rfl]
  repeat' (first
    | ((first
    | ((with_reducible apply AP.k_any); first
             | refine AP.S ?_
             | (refine AP.Y ?_; dsimp only) | refine AP.G (fun hg => ?_) (fun hg => ?_)
             | (refine AP.V (fun c hnil => ?_); simp only [nz])
      )
    
    )
      <;> (try simp only [nx, Nat.reduceAdd, Nat.reduceSub, BEq.rfl]))
    | ((with_reducible apply AP.k_nil); first
        | (refine AP.nil (hQ' _ ?_); clear hQ' Q')
        | refine AP.nil ?_)
    | ((with_reducible apply CP.k_reg); refine cp_regG fun Q' hQ' => ?_)
      | (with_reducible apply CP.k_reg1; refine cp_region ?_)
      | ((with_reducible apply CP.k_cond); first | refine cp_condT rfl ?_ | refine cp_condF rfl ?_ | refine cp_cond rfl (fun hc => ?_) (fun hc => ?_))
      | refine CP.go ?_
      | (simp only [List.append_eq, List.cons_append, List.nil_append]))
  (exact RetQ.A [(0, 0)] (by exact ⟨rfl, rfl⟩))
theorem rend_ac (st : Int × List UInt8) : AC Try.prog 69 [.bp 0 0 0] [rB st] (fun v bs' => v = I (endR st) ∧ bs' = [rB st]) := by
  refine AC.N Try.func69 Try.ntmps69 ?_
  intro X
  simp only [nx, Nat.reduceAdd, Nat.reduceSub, BEq.rfl]
  repeat' (first
    | ((first
    | ((with_reducible apply AP.k_any); first
             | refine AP.S ?_
             | (refine AP.V (fun c hnil => ?_); simp only [nz])
      )
    | ((with_reducible apply AP.k_any); refine AP.CB [(0, 0)] 0 (rerr_ac st) ?_)
    )
      <;> (try simp only [nx, Nat.reduceAdd, Nat.reduceSub, BEq.rfl]))
    | ((with_reducible apply AP.k_nil); first
        | (refine AP.nil (hQ' _ ?_); clear hQ' Q')
        | refine AP.nil ?_)
    | ((with_reducible apply CP.k_reg); refine cp_regG fun Q' hQ' => ?_)
      | (with_reducible apply CP.k_reg1; refine cp_region ?_)
      | ((with_reducible apply CP.k_cond); first | refine cp_condT rfl ?_ | refine cp_condF rfl ?_ | refine cp_cond rfl (fun hc => ?_) (fun hc => ?_))
      | refine CP.go ?_
      | (simp only [List.append_eq, List.cons_append, List.nil_append]))
  all_goals (refine RetQ.B [(0, 0)] ?_; (try dsimp only [resV, List.getD_cons_succ, List.getD_cons_zero]); ((refine ⟨?_, rfl⟩; simp at *; simp [endR, *]; try (intro h; simp [h] at *))))
end Go.Proofs.Ytkdbedbefojieaa

namespace Go.Proofs.Ytkdbedbefojieaa
set_option linter.unusedVariables false
set_option linter.unusedSimpArgs false
open Go.RowKit
set_option maxRecDepth 100000

abbrev tM : TypeId := 34
abbrev tE : TypeId := 41
structure Member where
  node : Int
  since : Int
  whole : Bool
structure Config where
  epoch : Int
  members : List Member
structure Book where
  cfg : Config
  since : Int
  whole : Bool
  upto : Int
structure Entry where
  pos : Int
  stamp : Int
  client : Int
  id : Int
  body : List UInt8
structure Record where
  kind : UInt8
  book : Book
  drop : Bool
  entry : Entry
structure Life where
  book : Book
  boot : Int
  log : List Entry
abbrev eM (m : Member) : List AV := [I m.node, I m.since, B m.whole]
abbrev ms (o : Option TypeId) (l : List Member) : AV := .sl o 3 (l.map eM)
abbrev eC (o : Option TypeId) (c : Config) : List AV := [I c.epoch, ms o c.members]
abbrev eK (o : Option TypeId) (b : Book) : List AV := [I b.cfg.epoch, ms o b.cfg.members, I b.since, B b.whole, I b.upto]
abbrev eE (o : Option TypeId) (e : Entry) : List AV := [I e.pos, I e.stamp, I e.client, I e.id, bs o e.body]
abbrev eR (r : Record) : List AV := [U r.kind, I r.book.cfg.epoch, ms none r.book.cfg.members, I r.book.since, B r.book.whole, I r.book.upto, B r.drop, I r.entry.pos, I r.entry.stamp, I r.entry.client, I r.entry.id, bs none r.entry.body]
abbrev es (o q : Option TypeId) (l : List Entry) : AV := .sl o 5 (l.map (eE q))
abbrev eL (oM oE oB : Option TypeId) (x : Life) : List AV := [I x.book.cfg.epoch, ms oM x.book.cfg.members, I x.book.since, B x.book.whole, I x.book.upto, I x.boot, es oE oB x.log]

def eqM (a b : Member) : Bool := a.node == b.node && a.since == b.since && a.whole == b.whole
def eqMs : List Member → List Member → Bool
  | [], [] => true
  | a :: l, b :: m => eqM a b && eqMs l m
  | _, _ => false
def eqC (a b : Config) : Bool := a.epoch == b.epoch && eqMs a.members b.members
def eqK (a b : Book) : Bool := eqC a.cfg b.cfg && a.since == b.since && a.whole == b.whole && a.upto == b.upto
def eqE (a b : Entry) : Bool := a.pos == b.pos && a.stamp == b.stamp && a.client == b.client && a.id == b.id && decide (a.body = b.body)
def eqEs : List Entry → List Entry → Bool
  | [], [] => true
  | a :: l, b :: m => eqE a b && eqEs l m
  | _, _ => false
def eqLf (a b : Life) : Bool := eqK a.book b.book && a.boot == b.boot && eqEs a.log b.log
theorem eqM_iff {a b : Member} : eqM a b = true ↔ a = b := by
  cases a; cases b; simp [eqM, and_assoc]
theorem eqMs_iff : ∀ {l m : List Member}, eqMs l m = true ↔ l = m
  | [], [] => by simp [eqMs]
  | [], _ :: _ => by simp [eqMs]
  | _ :: _, [] => by simp [eqMs]
  | a :: l, b :: m => by simp [eqMs, eqM_iff, eqMs_iff (l := l) (m := m)]
theorem eqC_iff {a b : Config} : eqC a b = true ↔ a = b := by
  cases a; cases b; simp [eqC, eqMs_iff]
theorem eqK_iff {a b : Book} : eqK a b = true ↔ a = b := by
  cases a; cases b; simp [eqK, eqC_iff, and_assoc]
theorem eqE_iff {a b : Entry} : eqE a b = true ↔ a = b := by
  cases a; cases b; simp [eqE, and_assoc]
theorem eqEs_iff : ∀ {l m : List Entry}, eqEs l m = true ↔ l = m
  | [], [] => by simp [eqEs]
  | [], _ :: _ => by simp [eqEs]
  | _ :: _, [] => by simp [eqEs]
  | a :: l, b :: m => by simp [eqEs, eqE_iff, eqEs_iff (l := l) (m := m)]
theorem eqLf_iff {a b : Life} : eqLf a b = true ↔ a = b := by
  cases a; cases b; simp [eqLf, eqK_iff, eqEs_iff, and_assoc]
/-- two rows, held against each other one by one -/
theorem eqMs_len {l m : List Member} (h : l.length ≠ m.length) : eqMs l m = false := by
  cases he : eqMs l m with
  | false => rfl
  | true => rw [eqMs_iff] at he; subst he; exact absurd rfl h
theorem eqEs_len {l m : List Entry} (h : l.length ≠ m.length) : eqEs l m = false := by
  cases he : eqEs l m with
  | false => rfl
  | true => rw [eqEs_iff] at he; subst he; exact absurd rfl h
theorem nr_M {e k : Nat} {l : List Member} : NR (.sl (some e) k (l.map eM)) := NR.leafs fun x a ha => by simp [eM] at ha; rcases ha with rfl | rfl | rfl <;> exact .sc
theorem nr_E {e k q : Nat} {l : List Entry} : NR (.sl (some e) k (l.map (eE (some q)))) := NR.leafs fun x a ha => by
  simp [eE] at ha; rcases ha with rfl | rfl | rfl | rfl | rfl <;> first | exact .sc | exact nr_B
theorem ro_M (l : List Member) : roE (l.map eM) = l.map eM := by rw [roE_map]; rfl
theorem ro_E (q : Option TypeId) (l : List Entry) : roE (l.map (eE q)) = l.map (eE none) := by
  rw [roE_map]
  refine List.map_congr_left fun x _ => ?_
  simp only [eE, roC, AV.ro, ro_B]
end Go.Proofs.Ytkdbedbefojieaa

namespace Go.Proofs.Ytkdbedbefojieaa
set_option linter.unusedVariables false
set_option linter.unusedSimpArgs false
set_option maxHeartbeats 8000000
open Go.RowKit
set_option maxRecDepth 100000
theorem intR_len {st : Int × List UInt8} {k : Nat} (h : st.2.length ≤ k) : (intR st).2.2.length ≤ k := takeS_len h
theorem flagR_len {st : Int × List UInt8} {k : Nat} (h : st.2.length ≤ k) : (flagR st).2.2.length ≤ k := takeS_len h
theorem byteR_len {st : Int × List UInt8} {k : Nat} (h : st.2.length ≤ k) : (byteR st).2.2.length ≤ k := takeS_len h
theorem bytesR_len {st : Int × List UInt8} {k : Nat} (h : st.2.length ≤ k) : (bytesR st).2.2.length ≤ k := takeS_len (takeS_len h)
theorem countR_len {m : Int} {st : Int × List UInt8} {k : Nat} (h : st.2.length ≤ k) : (countR m st).2.2.length ≤ k := takeS_len h
def restR (pos : Int) (st : Int × List UInt8) : Entry × (Int × List UInt8) :=
  (⟨pos, (intR st).1, (intR (intR st).2).1, (intR (intR (intR st).2).2).1, (bytesR (intR (intR (intR st).2).2).2).1⟩, (bytesR (intR (intR (intR st).2).2).2).2)
def entryR (st : Int × List UInt8) : Entry × (Int × List UInt8) := restR (intR st).1 (intR st).2
def memR (st : Int × List UInt8) : Member × (Int × List UInt8) := (⟨(intR st).1, (intR (intR st).2).1, (flagR (intR (intR st).2).2).1⟩, (flagR (intR (intR st).2).2).2)
def memsR : Nat → (Int × List UInt8) → List Member × (Int × List UInt8)
  | 0, st => ([], st)
  | n + 1, st => ((memR st).1 :: (memsR n (memR st).2).1, (memsR n (memR st).2).2)
def configR (st : Int × List UInt8) : Config × (Int × List UInt8) :=
  (⟨(intR st).1, (memsR (countR 5 (intR st).2).1.toNat (countR 5 (intR st).2).2).1⟩, (memsR (countR 5 (intR st).2).1.toNat (countR 5 (intR st).2).2).2)
theorem restR_len {p : Int} {st : Int × List UInt8} {k : Nat} (h : st.2.length ≤ k) : (restR p st).2.2.length ≤ k := bytesR_len (intR_len (intR_len (intR_len h)))
theorem memR_len {st : Int × List UInt8} {k : Nat} (h : st.2.length ≤ k) : (memR st).2.2.length ≤ k := flagR_len (intR_len (intR_len h))
theorem memsR_len {k : Nat} : ∀ {n : Nat} {st : Int × List UInt8}, st.2.length ≤ k → (memsR n st).2.2.length ≤ k
  | 0, _, h => h
  | n + 1, st, h => memsR_len (n := n) (st := (memR st).2) (memR_len h)
theorem entryR_len {st : Int × List UInt8} {k : Nat} (h : st.2.length ≤ k) : (entryR st).2.2.length ≤ k := restR_len (intR_len h)
theorem configR_len {st : Int × List UInt8} {k : Nat} (h : st.2.length ≤ k) : (configR st).2.2.length ≤ k := memsR_len (countR_len (intR_len h))
theorem memsR_snoc : ∀ (n : Nat) (st : Int × List UInt8), (memsR (n + 1) st).1 = (memsR n st).1 ++ [(memR (memsR n st).2).1] ∧ (memsR (n + 1) st).2 = (memR (memsR n st).2).2
  | 0, st => ⟨rfl, rfl⟩
  | n + 1, st => by
    have h := memsR_snoc n (memR st).2
    exact ⟨by show (memR st).1 :: (memsR (n + 1) (memR st).2).1 = _; rw [h.1]; rfl, h.2⟩
theorem memsR_fst_len : ∀ (n : Nat) (st : Int × List UInt8), (memsR n st).1.length = n
  | 0, _ => rfl
  | n + 1, st => by show (_ :: _).length = _; rw [List.length_cons, memsR_fst_len n]
theorem countR_le {m : Int} {st : Int × List UInt8} (hm : 0 ≤ m) : 0 ≤ (countR m st).1 ∧ (countR m st).1 ≤ m := by
  unfold countR takeS
  split
  · exact ⟨Int.le_refl _, hm⟩
  · split
    · exact ⟨Int.le_refl _, hm⟩
    · split
      · rename_i h
        simp [countG] at h
        exact ⟨h.1.1, h.1.2⟩
      · exact ⟨Int.le_refl _, hm⟩
theorem takeRest_ac (pos : Int) (st : Int × List UInt8) (hst : st.2.length ≤ 100000000) :
    AC Try.prog 107 [.bp 0 0 0, I pos] [rB st] (fun v bs => v = .ag (eE none (restR pos st).1) ∧ bs = [rB (restR pos st).2]) := by
  have h1 := intR_len hst
  have h2 := intR_len h1
  have h3 := intR_len h2
  refine AC.N Try.func107 Try.ntmps107 ?_
  intro X
  simp only [nx, Nat.reduceAdd, Nat.reduceSub, BEq.rfl]
  repeat' (first
    | ((first
    | ((with_reducible apply AP.k_any); first
             | refine AP.S ?_
      )
    | ((with_reducible apply AP.k_any); refine AP.CB [(0, 0)] 0 (rbytes_ac (intR (intR (intR st).2).2).2 h3) ?_)
    | ((with_reducible apply AP.k_any); refine AP.CB [(0, 0)] 0 (rint_ac (intR (intR st).2).2 h2) ?_)
    | ((with_reducible apply AP.k_any); refine AP.CB [(0, 0)] 0 (rint_ac (intR st).2 h1) ?_)
    | ((with_reducible apply AP.k_any); refine AP.CB [(0, 0)] 0 (rint_ac st hst) ?_)
    )
      <;> (try simp only [nx, Nat.reduceAdd, Nat.reduceSub, BEq.rfl]))
    | ((with_reducible apply AP.k_nil); first
        | (refine AP.nil (hQ' _ ?_); clear hQ' Q')
        | refine AP.nil ?_)
    | ((with_reducible apply CP.k_reg); refine cp_regG fun Q' hQ' => ?_)
      | (with_reducible apply CP.k_reg1; refine cp_region ?_)
      | ((with_reducible apply CP.k_cond); first | refine cp_condT rfl ?_ | refine cp_condF rfl ?_ | refine cp_cond rfl (fun hc => ?_) (fun hc => ?_))
      | refine CP.go ?_
      | (simp only [List.append_eq, List.cons_append, List.nil_append]))
  (exact RetQ.A [(0, 0)] (by exact ⟨rfl, rfl⟩))
theorem takeEntry_ac (st : Int × List UInt8) (hst : st.2.length ≤ 100000000) :
    AC Try.prog 68 [.bp 0 0 0] [rB st] (fun v bs => v = .ag (eE none (entryR st).1) ∧ bs = [rB (entryR st).2]) := by
  have h1 := intR_len hst
  refine AC.N Try.func68 Try.ntmps68 ?_
  intro X
  simp only [nx, Nat.reduceAdd, Nat.reduceSub, BEq.rfl]
  repeat' (first
    | ((first
    | ((with_reducible apply AP.k_any); first
             | refine AP.S ?_
      )
    | ((with_reducible apply AP.k_any); refine AP.CB [(0, 0)] 0 (rint_ac st hst) ?_)
    | ((with_reducible apply AP.k_any); refine AP.CB [(0, 0)] 0 (takeRest_ac _ _ h1) ?_)
    )
      <;> (try simp only [nx, Nat.reduceAdd, Nat.reduceSub, BEq.rfl]))
    | ((with_reducible apply AP.k_nil); first
        | (refine AP.nil (hQ' _ ?_); clear hQ' Q')
        | refine AP.nil ?_)
    | ((with_reducible apply CP.k_reg); refine cp_regG fun Q' hQ' => ?_)
      | (with_reducible apply CP.k_reg1; refine cp_region ?_)
      | ((with_reducible apply CP.k_cond); first | refine cp_condT rfl ?_ | refine cp_condF rfl ?_ | refine cp_cond rfl (fun hc => ?_) (fun hc => ?_))
      | refine CP.go ?_
      | (simp only [List.append_eq, List.cons_append, List.nil_append]))
  (exact RetQ.A [(0, 0)] (by exact ⟨rfl, rfl⟩))
theorem takeConfig_ac (st : Int × List UInt8) (hst : st.2.length ≤ 100000000) :
    AC Try.prog 65 [.bp 0 0 0] [rB st] (fun v bs => v = .ag (eC none (configR st).1) ∧ bs = [rB (configR st).2]) := by
  have h1 := intR_len hst
  have h2 := countR_len (m := 5) h1
  obtain ⟨hc0, hc5⟩ := countR_le (m := 5) (st := (intR st).2) (by omega)
  refine AC.N Try.func65 Try.ntmps65 ?_
  intro X
  simp only [nx, Nat.reduceAdd, Nat.reduceSub, BEq.rfl]
  repeat' (first
    | ((first
    | ((with_reducible apply AP.k_any); first
             | refine AP.S ?_
      )
    | ((with_reducible apply AP.k_any); refine AP.CB [(0, 0)] 0 (rint_ac st hst) ?_)
    | ((with_reducible apply AP.k_any); refine AP.CB [(0, 0)] 0 (rcount_ac 5 _ h1) ?_)
    )
      <;> (try simp only [nx, Nat.reduceAdd, Nat.reduceSub, BEq.rfl]))
    | ((with_reducible apply AP.k_nil); first
        | (refine AP.nil (hQ' _ ?_); clear hQ' Q')
        | refine AP.nil ?_)
    | ((with_reducible apply CP.k_reg); refine cp_regG fun Q' hQ' => ?_)
      | (with_reducible apply CP.k_reg1; refine cp_region ?_)
      | ((with_reducible apply CP.k_cond); first | refine cp_condT rfl ?_ | refine cp_condF rfl ?_ | refine cp_cond rfl (fun hc => ?_) (fun hc => ?_))
      | refine CP.go ?_
      | (simp only [List.append_eq, List.cons_append, List.nil_append]))
  refine CP.gh (gh_nilc (j := 2) (u := 1) (off := 1) (e := tM) (k := 3) rfl rfl) ?_
  simp only [nx, Nat.reduceAdd, Nat.reduceSub, BEq.rfl]
  refine CP.gh gh_slot ?_
  simp only [nx, Nat.reduceAdd, Nat.reduceSub, BEq.rfl]
  have h0 : (configR st) = (⟨(intR st).1, (memsR (countR 5 (intR st).2).1.toNat (countR 5 (intR st).2).2).1⟩, (memsR (countR 5 (intR st).2).1.toNat (countR 5 (intR st).2).2).2) := rfl
  rw [h0]
  clear h0
  obtain ⟨N, hN⟩ : ∃ N : Nat, (countR 5 (intR st).2).1 = N := ⟨(countR 5 (intR st).2).1.toNat, by omega⟩
  rw [hN] at hc5 ⊢
  rw [Int.toNat_natCast]
  generalize (countR 5 (intR st).2).2 = S0 at h2 ⊢
  refine cp_loopS [9, 10, 11, 12, 13, 14, 15, 16, 17, 18, 19, 20, 21, 22, 23] (fun a : Nat × Nat × Nat => N - a.1) (fun a => a.1 ≤ N) (fun a => [(9, I a.1)]) (fun a => [(0, ⟨0, rB (memsR a.1 S0).2⟩), (2, ⟨1, .c 24 [I (intR st).1, .hd 3 a.2.1]⟩), (3, ⟨a.2.1, .r tM 3 ((memsR a.1 S0).1.map eM)⟩), (4, ⟨a.2.2, .x⟩)]) (0, 1, 0) (Nat.zero_le _) (by exact Gh.W) ?_
  rintro ⟨k, u, v⟩ hk
  simp only [setT, deT, setB, List.set_cons_succ, List.set_cons_zero]
  dsimp only at hk
  have hS := memsR_len (n := k) h2
  have hL := memsR_fst_len k S0
  have hs1 := (memsR_snoc k S0).1
  have hs2 := (memsR_snoc k S0).2
  by_cases hlt : k < N
  · have hw : IntKind.i64.wrap ((k : Int) + 1) = ((k + 1 : Nat) : Int) := wrap_i64 (by omega) (by omega)
    generalize hms : memsR k S0 = ms at hS hL hs1 hs2 ⊢
    obtain ⟨ml, S⟩ := ms
    dsimp only at hS hL hs1 hs2 ⊢
    have g1 := intR_len hS
    have g2 := intR_len g1
    have hlen : (ml.map eM).length + 1 ≤ 1000000000 := by rw [List.length_map]; omega
    repeat' (first
      | ((first
      | ((with_reducible apply AP.k_any); first
               | refine AP.S ?_
        )
      
      )
        <;> (try simp only [nx, Nat.reduceAdd, Nat.reduceSub, BEq.rfl]))
      | ((with_reducible apply AP.k_nil); first
          | (refine AP.nil (hQ' _ ?_); clear hQ' Q')
          | refine AP.nil ?_)
      | ((with_reducible apply CP.k_reg); refine cp_regG fun Q' hQ' => ?_)
        | (with_reducible apply CP.k_reg1; refine cp_region ?_)
        | ((with_reducible apply CP.k_cond); first | refine cp_condT rfl ?_ | refine cp_condF rfl ?_ | refine cp_cond rfl (fun hc => ?_) (fun hc => ?_))
        | refine CP.go ?_
        | (simp only [List.append_eq, List.cons_append, List.nil_append]))
    · refine cp_drawI (fun zs zb => ⟨setT zs.t [(11, cond (zb.getD 0 false) (.bp 2 1 1) (.de)), (12, cond (zb.getD 1 false) (.hd 3 u) (.de)), (13, cond (zb.getD 2 false) (.bp 0 0 0) (.de)), (14, cond (zb.getD 3 false) (I (intR S).1) (.de)), (15, cond (zb.getD 4 false) (.bp 0 0 0) (.de)), (16, cond (zb.getD 5 false) (I (intR (intR S).2).1) (.de)), (17, cond (zb.getD 6 false) (.bp 0 0 0) (.de)), (18, cond (zb.getD 7 false) (B (flagR (intR (intR S).2).2).1) (.de)), (19, cond (zb.getD 8 false) (.ag (eM (memR S).1)) (.de)), (20, cond (zb.getD 9 false) (.hd 4 (v + 1)) (.de)), (21, cond (zb.getD 10 false) (.hd 3 (u + 1)) (.de)), (22, cond (zb.getD 11 false) (.bp 2 1 1) (.de))], ((((zs.b.set 0 (cond (zb.getD 7 false) (⟨0, rB (memR S).2⟩) (cond (zb.getD 5 false) (⟨0, rB (intR (intR S).2).2⟩) (cond (zb.getD 3 false) (⟨0, rB (intR S).2⟩) (zs.b.getD 0 ⟨0, .x⟩))))).set 2 (cond (zb.getD 12 false) (⟨1, .c 24 [I (intR st).1, .hd 3 (u + 1)]⟩) (zs.b.getD 2 ⟨0, .x⟩))).set 3 (cond (zb.getD 10 false) (⟨u + 1, .r tM 3 (ml.map eM ++ [eM (memR S).1])⟩) (zs.b.getD 3 ⟨0, .x⟩))).set 4 (cond (zb.getD 10 false) (⟨v + 1, .x⟩) (cond (zb.getD 9 false) (⟨v + 1, .r tM 3 [eM (memR S).1]⟩) (zs.b.getD 4 ⟨0, .x⟩))))⟩) (by kernel_rfl) (by kernel_rfl) (by kernel_rfl) ?_ ?_
      rotate_left
      simp only [cond_true, cond_false, setT, List.set_cons_succ, List.set_cons_zero, List.getD_cons_succ, List.getD_cons_zero, List.set_cons_succ, List.length_cons, List.length_nil, List.replicate_succ, List.replicate_zero, Nat.reduceAdd]
      rotate_left
      · intro b hb' hcl
        obtain ⟨l0, b0, rfl, hb0⟩ := len_cons hb'
        obtain ⟨l1, b1, rfl, hb1⟩ := len_cons hb0
        obtain ⟨l2, b2, rfl, hb2⟩ := len_cons hb1
        obtain ⟨l3, b3, rfl, hb3⟩ := len_cons hb2
        obtain ⟨l4, b4, rfl, hb4⟩ := len_cons hb3
        obtain ⟨l5, b5, rfl, hb5⟩ := len_cons hb4
        obtain ⟨l6, b6, rfl, hb6⟩ := len_cons hb5
        obtain ⟨l7, b7, rfl, hb7⟩ := len_cons hb6
        obtain ⟨l8, b8, rfl, hb8⟩ := len_cons hb7
        obtain ⟨l9, b9, rfl, hb9⟩ := len_cons hb8
        obtain ⟨l10, b10, rfl, hb10⟩ := len_cons hb9
        obtain ⟨l11, b11, rfl, hb11⟩ := len_cons hb10
        obtain ⟨l12, b12, rfl, hb12⟩ := len_cons hb11
        obtain rfl := List.length_eq_zero_iff.1 hb12
        clear hb' hb0 hb1 hb2 hb3 hb4 hb5 hb6 hb7 hb8 hb9 hb10 hb11 hb12
        · simp only [closedB, depsOk, Region.binds, List.toList_toArray, List.all_cons, List.all_nil, List.getD_cons_succ, List.getD_cons_zero, Bool.not_true, Bool.not_false, Bool.true_or, Bool.false_or, Bool.and_true, Bool.true_and, Bool.or_true, Bool.and_false, Bool.or_false, Bool.false_and, Bool.and_eq_true, Bool.or_eq_true, Bool.not_eq_true'] at hcl
          simp only [StepsP]
          refine ⟨?_, ?_, ?_, ?_, ?_, ?_, ?_, ?_, ?_, ?_, ?_, ?_, ?_, trivial⟩
          · intro h1 h2
            simp [depsOk, Region.binds] at h1 h2
            subst h1
            (repeat (obtain ⟨rfl, h2⟩ := h2))
            (try subst h2)
            clear hcl
            simp only [cond_true, cond_false, setT, List.set_cons_succ, List.set_cons_zero, List.getD_cons_succ, List.getD_cons_zero, List.set_cons_succ]
            (with_reducible apply AP.k_any); first | (refine AP.sm false rfl ?_ ?_; focus ((repeat' (with_reducible apply And.intro)) <;> (first | exact True.intro | exact rfl | omega | (simp; omega) | (simp; done) | assumption | exact .inl rfl | (refine .inr ?_; simp; try omega)))) | fail "no step"
            all_goals (try simp only [nx, Nat.reduceAdd, Nat.reduceSub, BEq.rfl])
            refine AP.nil ?_
            exact ⟨rfl, rfl⟩
          · intro h1 h2
            simp [depsOk, Region.binds] at h1 h2
            subst h1
            (repeat (obtain ⟨rfl, h2⟩ := h2))
            (try subst h2)
            (first | (obtain rfl : l10 = false := by grind only) | skip)
            (first | (obtain rfl : l12 = false := by grind only) | skip)
            clear hcl
            simp only [cond_true, cond_false, setT, List.set_cons_succ, List.set_cons_zero, List.getD_cons_succ, List.getD_cons_zero, List.set_cons_succ]
            (with_reducible apply AP.k_any); first | (refine AP.sm false rfl ?_ ?_; focus ((repeat' (with_reducible apply And.intro)) <;> (first | exact True.intro | exact rfl | omega | (simp; omega) | (simp; done) | assumption | exact .inl rfl | (refine .inr ?_; simp; try omega)))) | (refine AP.el rfl ?_ (by (first | (refine ⟨?_, ?_⟩; assumption; rfl) | exact ⟨mapAt (by (first | omega | (simp; omega) | (simp; done) | assumption)), rfl⟩ | exact ⟨rfl, rfl⟩)) ?_; focus ((repeat' (with_reducible apply And.intro)) <;> (first | exact True.intro | exact rfl | omega | (simp; omega) | (simp; done) | assumption | exact .inl rfl | (refine .inr ?_; simp; try omega)))) | fail "no step"
            all_goals (try simp only [nx, Nat.reduceAdd, Nat.reduceSub, BEq.rfl])
            refine AP.nil ?_
            exact ⟨rfl, rfl⟩
          · intro h1 h2
            simp [depsOk, Region.binds] at h1 h2
            subst h1
            (repeat (obtain ⟨rfl, h2⟩ := h2))
            (try subst h2)
            clear hcl
            simp only [cond_true, cond_false, setT, List.set_cons_succ, List.set_cons_zero, List.getD_cons_succ, List.getD_cons_zero, List.set_cons_succ]
            (with_reducible apply AP.k_any); first | (refine AP.sm false rfl ?_ ?_; focus ((repeat' (with_reducible apply And.intro)) <;> (first | exact True.intro | exact rfl | omega | (simp; omega) | (simp; done) | assumption | exact .inl rfl | (refine .inr ?_; simp; try omega)))) | fail "no step"
            all_goals (try simp only [nx, Nat.reduceAdd, Nat.reduceSub, BEq.rfl])
            refine AP.nil ?_
            exact ⟨rfl, rfl⟩
          · intro h1 h2
            simp [depsOk, Region.binds] at h1 h2
            subst h1
            (repeat (obtain ⟨rfl, h2⟩ := h2))
            (try subst h2)
            (first | (obtain rfl : l5 = false := by grind only) | skip)
            (first | (obtain rfl : l7 = false := by grind only) | skip)
            (first | (obtain rfl : l9 = false := by grind only) | skip)
            (first | (obtain rfl : l10 = false := by grind only) | skip)
            (first | (obtain rfl : l12 = false := by grind only) | skip)
            clear hcl
            simp only [cond_true, cond_false, setT, List.set_cons_succ, List.set_cons_zero, List.getD_cons_succ, List.getD_cons_zero, List.set_cons_succ]
            (first
            | ((with_reducible apply AP.k_any); refine AP.CB [(0, 0)] 0 (rint_ac (intR S).2 g1) ?_)
            | ((with_reducible apply AP.k_any); refine AP.CB [(0, 0)] 0 (rint_ac S hS) ?_)
            | ((with_reducible apply AP.k_any); refine AP.CB [(0, 0)] 0 (rflag_ac _ g2) ?_)
            | fail "no arm")
            all_goals (try simp only [nx, Nat.reduceAdd, Nat.reduceSub, BEq.rfl])
            refine AP.nil ?_
            exact ⟨rfl, rfl⟩
          · intro h1 h2
            simp [depsOk, Region.binds] at h1 h2
            subst h1
            (repeat (obtain ⟨rfl, h2⟩ := h2))
            (try subst h2)
            clear hcl
            simp only [cond_true, cond_false, setT, List.set_cons_succ, List.set_cons_zero, List.getD_cons_succ, List.getD_cons_zero, List.set_cons_succ]
            (with_reducible apply AP.k_any); first | (refine AP.sm false rfl ?_ ?_; focus ((repeat' (with_reducible apply And.intro)) <;> (first | exact True.intro | exact rfl | omega | (simp; omega) | (simp; done) | assumption | exact .inl rfl | (refine .inr ?_; simp; try omega)))) | fail "no step"
            all_goals (try simp only [nx, Nat.reduceAdd, Nat.reduceSub, BEq.rfl])
            refine AP.nil ?_
            exact ⟨rfl, rfl⟩
          · intro h1 h2
            simp [depsOk, Region.binds] at h1 h2
            subst h1
            (repeat (obtain ⟨rfl, h2⟩ := h2))
            (try subst h2)
            (first | (obtain rfl : l3 = true := by grind only) | skip)
            (first | (obtain rfl : l7 = false := by grind only) | skip)
            (first | (obtain rfl : l9 = false := by grind only) | skip)
            (first | (obtain rfl : l10 = false := by grind only) | skip)
            (first | (obtain rfl : l12 = false := by grind only) | skip)
            clear hcl
            simp only [cond_true, cond_false, setT, List.set_cons_succ, List.set_cons_zero, List.getD_cons_succ, List.getD_cons_zero, List.set_cons_succ]
            (first
            | ((with_reducible apply AP.k_any); refine AP.CB [(0, 0)] 0 (rint_ac (intR S).2 g1) ?_)
            | ((with_reducible apply AP.k_any); refine AP.CB [(0, 0)] 0 (rint_ac S hS) ?_)
            | ((with_reducible apply AP.k_any); refine AP.CB [(0, 0)] 0 (rflag_ac _ g2) ?_)
            | fail "no arm")
            all_goals (try simp only [nx, Nat.reduceAdd, Nat.reduceSub, BEq.rfl])
            refine AP.nil ?_
            exact ⟨rfl, rfl⟩
          · intro h1 h2
            simp [depsOk, Region.binds] at h1 h2
            subst h1
            (repeat (obtain ⟨rfl, h2⟩ := h2))
            (try subst h2)
            clear hcl
            simp only [cond_true, cond_false, setT, List.set_cons_succ, List.set_cons_zero, List.getD_cons_succ, List.getD_cons_zero, List.set_cons_succ]
            (with_reducible apply AP.k_any); first | (refine AP.sm false rfl ?_ ?_; focus ((repeat' (with_reducible apply And.intro)) <;> (first | exact True.intro | exact rfl | omega | (simp; omega) | (simp; done) | assumption | exact .inl rfl | (refine .inr ?_; simp; try omega)))) | fail "no step"
            all_goals (try simp only [nx, Nat.reduceAdd, Nat.reduceSub, BEq.rfl])
            refine AP.nil ?_
            exact ⟨rfl, rfl⟩
          · intro h1 h2
            simp [depsOk, Region.binds] at h1 h2
            subst h1
            (repeat (obtain ⟨rfl, h2⟩ := h2))
            (try subst h2)
            (first | (obtain rfl : l3 = true := by grind only) | skip)
            (first | (obtain rfl : l5 = true := by grind only) | skip)
            (first | (obtain rfl : l9 = false := by grind only) | skip)
            (first | (obtain rfl : l10 = false := by grind only) | skip)
            (first | (obtain rfl : l12 = false := by grind only) | skip)
            clear hcl
            simp only [cond_true, cond_false, setT, List.set_cons_succ, List.set_cons_zero, List.getD_cons_succ, List.getD_cons_zero, List.set_cons_succ]
            (first
            | ((with_reducible apply AP.k_any); refine AP.CB [(0, 0)] 0 (rint_ac (intR S).2 g1) ?_)
            | ((with_reducible apply AP.k_any); refine AP.CB [(0, 0)] 0 (rint_ac S hS) ?_)
            | ((with_reducible apply AP.k_any); refine AP.CB [(0, 0)] 0 (rflag_ac _ g2) ?_)
            | fail "no arm")
            all_goals (try simp only [nx, Nat.reduceAdd, Nat.reduceSub, BEq.rfl])
            refine AP.nil ?_
            exact ⟨rfl, rfl⟩
          · intro h1 h2
            simp [depsOk, Region.binds] at h1 h2
            subst h1
            (repeat (obtain ⟨rfl, h2⟩ := h2))
            (try subst h2)
            clear hcl
            simp only [cond_true, cond_false, setT, List.set_cons_succ, List.set_cons_zero, List.getD_cons_succ, List.getD_cons_zero, List.set_cons_succ]
            (with_reducible apply AP.k_any); first | (refine AP.sm false rfl ?_ ?_; focus ((repeat' (with_reducible apply And.intro)) <;> (first | exact True.intro | exact rfl | omega | (simp; omega) | (simp; done) | assumption | exact .inl rfl | (refine .inr ?_; simp; try omega)))) | fail "no step"
            all_goals (try simp only [nx, Nat.reduceAdd, Nat.reduceSub, BEq.rfl])
            refine AP.nil ?_
            exact ⟨rfl, rfl⟩
          · intro h1 h2
            simp [depsOk, Region.binds] at h1 h2
            subst h1
            (repeat (obtain ⟨rfl, h2⟩ := h2))
            (try subst h2)
            (first | (obtain rfl : l3 = true := by grind only) | skip)
            (first | (obtain rfl : l5 = true := by grind only) | skip)
            (first | (obtain rfl : l7 = true := by grind only) | skip)
            (first | (obtain rfl : l10 = false := by grind only) | skip)
            (first | (obtain rfl : l12 = false := by grind only) | skip)
            clear hcl
            simp only [cond_true, cond_false, setT, List.set_cons_succ, List.set_cons_zero, List.getD_cons_succ, List.getD_cons_zero, List.set_cons_succ]
            (with_reducible apply AP.k_any); first | (refine AP.sm false rfl ?_ ?_; focus ((repeat' (with_reducible apply And.intro)) <;> (first | exact True.intro | exact rfl | omega | (simp; omega) | (simp; done) | assumption | exact .inl rfl | (refine .inr ?_; simp; try omega)))) | fail "no step"
            all_goals (try simp only [nx, Nat.reduceAdd, Nat.reduceSub, BEq.rfl])
            refine AP.nil ?_
            exact ⟨rfl, rfl⟩
          · intro h1 h2
            simp [depsOk, Region.binds] at h1 h2
            subst h1
            (repeat (obtain ⟨rfl, h2⟩ := h2))
            (try subst h2)
            (first | (obtain rfl : l3 = true := by grind only) | skip)
            (first | (obtain rfl : l5 = true := by grind only) | skip)
            (first | (obtain rfl : l7 = true := by grind only) | skip)
            (first | (obtain rfl : l9 = true := by grind only) | skip)
            (first | (obtain rfl : l12 = false := by grind only) | skip)
            clear hcl
            simp only [cond_true, cond_false, setT, List.set_cons_succ, List.set_cons_zero, List.getD_cons_succ, List.getD_cons_zero, List.set_cons_succ]
            (with_reducible apply AP.k_any); first | (refine AP.sm false rfl ?_ ?_; focus ((repeat' (with_reducible apply And.intro)) <;> (first | exact True.intro | exact rfl | omega | (simp; omega) | (simp; done) | assumption | exact .inl rfl | (refine .inr ?_; simp; try omega)))) | fail "no step"
            all_goals (try simp only [nx, Nat.reduceAdd, Nat.reduceSub, BEq.rfl])
            refine AP.nil ?_
            exact ⟨rfl, rfl⟩
          · intro h1 h2
            simp [depsOk, Region.binds] at h1 h2
            subst h1
            (repeat (obtain ⟨rfl, h2⟩ := h2))
            (try subst h2)
            clear hcl
            simp only [cond_true, cond_false, setT, List.set_cons_succ, List.set_cons_zero, List.getD_cons_succ, List.getD_cons_zero, List.set_cons_succ]
            (with_reducible apply AP.k_any); first | (refine AP.sm false rfl ?_ ?_; focus ((repeat' (with_reducible apply And.intro)) <;> (first | exact True.intro | exact rfl | omega | (simp; omega) | (simp; done) | assumption | exact .inl rfl | (refine .inr ?_; simp; try omega)))) | fail "no step"
            all_goals (try simp only [nx, Nat.reduceAdd, Nat.reduceSub, BEq.rfl])
            refine AP.nil ?_
            exact ⟨rfl, rfl⟩
          · intro h1 h2
            simp [depsOk, Region.binds] at h1 h2
            subst h1
            (repeat (obtain ⟨rfl, h2⟩ := h2))
            (try subst h2)
            (first | (obtain rfl : l3 = true := by grind only) | skip)
            (first | (obtain rfl : l5 = true := by grind only) | skip)
            (first | (obtain rfl : l7 = true := by grind only) | skip)
            (first | (obtain rfl : l9 = true := by grind only) | skip)
            (first | (obtain rfl : l10 = true := by grind only) | skip)
            clear hcl
            simp only [cond_true, cond_false, setT, List.set_cons_succ, List.set_cons_zero, List.getD_cons_succ, List.getD_cons_zero, List.set_cons_succ]
            (with_reducible apply AP.k_any); first | (refine AP.sm false rfl ?_ ?_; focus ((repeat' (with_reducible apply And.intro)) <;> (first | exact True.intro | exact rfl | omega | (simp; omega) | (simp; done) | assumption | exact .inl rfl | (refine .inr ?_; simp; try omega)))) | refine ap_storeE rfl rfl rfl rfl rfl rfl rfl rfl (by (first | (refine ⟨?_, ?_⟩; assumption; rfl) | exact ⟨mapAt (by (first | omega | (simp; omega) | (simp; done) | assumption)), rfl⟩ | exact ⟨rfl, rfl⟩)) (by exact rfl) ?_ | fail "no step"
            all_goals (try simp only [nx, Nat.reduceAdd, Nat.reduceSub, BEq.rfl])
            refine AP.nil ?_
            exact ⟨rfl, rfl⟩
      repeat' (first
        | ((first
        | ((with_reducible apply AP.k_any); first
                 | refine AP.S ?_
          )
        
        )
          <;> (try simp only [nx, Nat.reduceAdd, Nat.reduceSub, BEq.rfl]))
        | ((with_reducible apply AP.k_nil); first
            | (refine AP.nil (hQ' _ ?_); clear hQ' Q')
            | refine AP.nil ?_)
        | ((with_reducible apply CP.k_reg); refine cp_regG fun Q' hQ' => ?_)
          | (with_reducible apply CP.k_reg1; refine cp_region ?_)
          | ((with_reducible apply CP.k_cond); first | refine cp_condT rfl ?_ | refine cp_condF rfl ?_ | refine cp_cond rfl (fun hc => ?_) (fun hc => ?_))
          | refine CP.go ?_
          | (simp only [List.append_eq, List.cons_append, List.nil_append]))
      simp only [hw]
      refine ⟨(k + 1, u + 1, v + 1), by (dsimp only; omega), by (dsimp only; omega), ?_⟩
      dsimp only
      rw [hs1, hs2, List.map_append, List.map_cons, List.map_nil]
      exact Gh.W
    · exfalso; simp at *; omega
  · obtain rfl : k = N := by omega
    refine CP.gh (gh_fz (b := 3) (u := u) rfl rfl (by (repeat' (first | exact FzC.nil | apply FzC.cons | exact FzV.hd | apply FzV.ag | exact FzV.same))) (by (repeat' (first | exact FzB.nil | apply FzB.c | apply FzB.same | exact FzC.nil | apply FzC.cons | exact FzV.hd | apply FzV.ag | exact FzV.same)))) ?_
    simp only [ro_M]
    repeat' (first
      | ((first
      | ((with_reducible apply AP.k_any); first
               | refine AP.S ?_
        )
      
      )
        <;> (try simp only [nx, Nat.reduceAdd, Nat.reduceSub, BEq.rfl]))
      | ((with_reducible apply AP.k_nil); first
          | (refine AP.nil (hQ' _ ?_); clear hQ' Q')
          | refine AP.nil ?_)
      | ((with_reducible apply CP.k_reg); refine cp_regG fun Q' hQ' => ?_)
        | (with_reducible apply CP.k_reg1; refine cp_region ?_)
        | ((with_reducible apply CP.k_cond); first | refine cp_condT rfl ?_ | refine cp_condF rfl ?_ | refine cp_cond rfl (fun hc => ?_) (fun hc => ?_))
        | refine CP.go ?_
        | (simp only [List.append_eq, List.cons_append, List.nil_append]))
    all_goals first
      | (exfalso; simp at *; done)
      | (exfalso; simp at *; omega)
      | (exact RetQ.A [(0, 0)] (by exact ⟨rfl, rfl⟩))
end Go.Proofs.Ytkdbedbefojieaa

namespace Go.Proofs.Ytkdbedbefojieaa
set_option linter.unusedVariables false
set_option linter.unusedSimpArgs false
set_option maxHeartbeats 8000000
open Go.RowKit
set_option maxRecDepth 100000
theorem putS_take (x : Nat) : ∀ (n i : Nat), i < n → (putS x n).take (i + 1) = (putS x n).take i ++ [UInt8.ofNat (x / 256 ^ (n - 1 - i) % 256)]
  | n + 1, 0, _ => by simp [putS]
  | n + 1, i + 1, h => by
    have := putS_take x n i (by omega)
    simp only [putS, List.take_succ_cons, List.cons_append]
    rw [this, show n + 1 - 1 - (i + 1) = n - 1 - i by omega]
theorem rput_ac (x n : Nat) (hn : n ≤ 8) (hx : x < 18446744073709551616) :
    AC Try.prog 96 [.sc (.int .u64 (x : Int)), I n] [] (fun v bs' => v = bs (some tU) (putS x n) ∧ bs' = []) := by
  have hpl := putS_length x n
  refine AC.N Try.func96 Try.ntmps96 ?_
  intro X
  simp only [nx, Nat.reduceAdd, Nat.reduceSub, BEq.rfl]
  repeat' (first
    | ((first
    | ((with_reducible apply AP.k_any); first
             | refine AP.S ?_
      )
    
    )
      <;> (try simp only [nx, Nat.reduceAdd, Nat.reduceSub, BEq.rfl]))
    | ((with_reducible apply AP.k_nil); first
        | (refine AP.nil (hQ' _ ?_); clear hQ' Q')
        | refine AP.nil ?_)
    | ((with_reducible apply CP.k_reg); refine cp_regG fun Q' hQ' => ?_)
      | (with_reducible apply CP.k_reg1; refine cp_region ?_)
      | ((with_reducible apply CP.k_cond); first | refine cp_condT rfl ?_ | refine cp_condF rfl ?_ | refine cp_cond rfl (fun hc => ?_) (fun hc => ?_))
      | refine CP.go ?_
      | (simp only [List.append_eq, List.cons_append, List.nil_append]))
  refine CP.gh (gh_nil (t := 5) (e := tU) (k := 1) rfl) ?_
  simp only [nx, Nat.reduceAdd, Nat.reduceSub, BEq.rfl]
  refine CP.gh gh_slot ?_
  simp only [nx, Nat.reduceAdd, Nat.reduceSub, BEq.rfl]
  refine cp_loopS [5, 6, 7, 8, 9, 10, 11, 12, 13, 14, 15, 16, 17, 18, 19, 20, 21, 22, 23, 24, 25, 26, 27, 28, 29] (fun a : Nat × Nat × Nat => n - a.1) (fun a => a.1 ≤ n) (fun a => [(6, I a.1), (5, .hd 0 a.2.1)]) (fun a => [(0, ⟨a.2.1, .r tU 1 (((putS x n).take a.1).map eB)⟩), (1, ⟨a.2.2, .x⟩)]) (0, 1, 0) (Nat.zero_le _) (by exact Gh.W) ?_
  rintro ⟨i, u, v⟩ hi
  simp only [setT, deT, setB, List.set_cons_succ, List.set_cons_zero]
  dsimp only at hi
  by_cases hlt : i < n
  · have hw : IntKind.i64.wrap ((i : Int) + 1) = ((i + 1 : Nat) : Int) := wrap_i64 (by omega) (by omega)
    have hw1 : IntKind.i64.wrap ((n : Int) - 1) = ((n - 1 : Nat) : Int) := by rw [wrap_i64 (by omega) (by omega)]; omega
    have hlen : (((putS x n).take i).map eB).length + 1 ≤ 1000000000 := by simp; omega
    repeat' (first
      | ((first
      | ((with_reducible apply AP.k_any); first
               | refine AP.S ?_
        )
      
      )
        <;> (try simp only [nx, Nat.reduceAdd, Nat.reduceSub, BEq.rfl]))
      | ((with_reducible apply AP.k_nil); first
          | (refine AP.nil (hQ' _ ?_); clear hQ' Q')
          | refine AP.nil ?_)
      | ((with_reducible apply CP.k_reg); refine cp_regG fun Q' hQ' => ?_)
        | (with_reducible apply CP.k_reg1; refine cp_region ?_)
        | ((with_reducible apply CP.k_cond); first | refine cp_condT rfl ?_ | refine cp_condF rfl ?_ | refine cp_cond rfl (fun hc => ?_) (fun hc => ?_))
        | refine CP.go ?_
        | (simp only [List.append_eq, List.cons_append, List.nil_append]))
    · refine cp_loopS [7, 8, 16, 17, 18, 19, 20, 21, 22, 23] (fun k : Nat => n - 1 - k) (fun k => i ≤ k ∧ k ≤ n - 1) (fun k => [(7, .sc (.int .u64 ((x / 256 ^ (k - i) : Nat) : Int))), (8, I k)]) (fun _ => []) i ⟨Nat.le_refl _, by omega⟩ (by (simp only [Nat.sub_self, Nat.pow_zero, Nat.div_one]); exact Gh.W) ?_
      rintro k ⟨hk1, hk2⟩
      simp only [setT, deT, setB, List.set_cons_succ, List.set_cons_zero]
      by_cases hlk : k < n - 1
      · have hwk : IntKind.i64.wrap ((k : Int) + 1) = ((k + 1 : Nat) : Int) := wrap_i64 (by omega) (by omega)
        have hq : IntKind.u64.wrap (((x / 256 ^ (k - i) : Nat) : Int).tdiv 256) = ((x / 256 ^ (k + 1 - i) : Nat) : Int) := by
          have e1 : x / 256 ^ (k + 1 - i) = x / 256 ^ (k - i) / 256 := by rw [show k + 1 - i = (k - i) + 1 by omega, Nat.pow_succ, Nat.div_div_eq_div_mul]
          have e2 : x / 256 ^ (k - i) ≤ x := Nat.div_le_self _ _
          rw [e1, show (256 : Int) = ((256 : Nat) : Int) from rfl, ← Int.ofNat_tdiv]
          generalize x / 256 ^ (k - i) = y at e2
          simp [IntKind.wrap, IntKind.bits, IntKind.signed]; omega
        repeat' (first
          | ((first
          | ((with_reducible apply AP.k_any); first
                   | refine AP.S ?_
            )
          
          )
            <;> (try simp only [nx, Nat.reduceAdd, Nat.reduceSub, BEq.rfl]))
          | ((with_reducible apply AP.k_nil); first
              | (refine AP.nil (hQ' _ ?_); clear hQ' Q')
              | refine AP.nil ?_)
          | ((with_reducible apply CP.k_reg); refine cp_regG fun Q' hQ' => ?_)
            | (with_reducible apply CP.k_reg1; refine cp_region ?_)
            | ((with_reducible apply CP.k_cond); first | refine cp_condT rfl ?_ | refine cp_condF rfl ?_ | refine cp_cond rfl (fun hc => ?_) (fun hc => ?_))
            | refine CP.go ?_
            | (simp only [List.append_eq, List.cons_append, List.nil_append]))
        · simp only [hwk, hq]
          exact ⟨k + 1, by omega, ⟨by omega, by omega⟩, by exact Gh.W⟩
        · exfalso; simp [hw1] at *; omega
      · obtain rfl : k = n - 1 := by omega
        have hr : IntKind.u8.wrap (((x / 256 ^ (n - 1 - i) : Nat) : Int).tmod 256) = ((UInt8.ofNat (x / 256 ^ (n - 1 - i) % 256)).toNat : Int) := by
          rw [show (256 : Int) = ((256 : Nat) : Int) from rfl, ← Int.ofNat_tmod, UInt8.toNat_ofNat']
          simp [IntKind.wrap, IntKind.bits, IntKind.signed]
        repeat' (first
          | ((first
          | ((with_reducible apply AP.k_any); first
                   | refine AP.S ?_
            )
          
          )
            <;> (try simp only [nx, Nat.reduceAdd, Nat.reduceSub, BEq.rfl]))
          | ((with_reducible apply AP.k_nil); first
              | (refine AP.nil (hQ' _ ?_); clear hQ' Q')
              | refine AP.nil ?_)
          | ((with_reducible apply CP.k_reg); refine cp_regG fun Q' hQ' => ?_)
            | (with_reducible apply CP.k_reg1; refine cp_region ?_)
            | ((with_reducible apply CP.k_cond); first | refine cp_condT rfl ?_ | refine cp_condF rfl ?_ | refine cp_cond rfl (fun hc => ?_) (fun hc => ?_))
            | refine CP.go ?_
            | (simp only [List.append_eq, List.cons_append, List.nil_append]))
        · exfalso; simp [hw1] at *
        · simp only [hw, hr]
          refine ⟨(i + 1, u + 1, v + 1), by (dsimp only; omega), by (dsimp only; omega), ?_⟩
          dsimp only
          rw [putS_take x n i hlt, List.map_append, List.map_cons, List.map_nil]
          exact Gh.W
    · exfalso; simp at *; omega
  · obtain rfl : i = n := by omega
    rw [List.take_of_length_le (by omega)]
    repeat' (first
      | ((first
      | ((with_reducible apply AP.k_any); first
               | refine AP.S ?_
        )
      
      )
        <;> (try simp only [nx, Nat.reduceAdd, Nat.reduceSub, BEq.rfl]))
      | ((with_reducible apply AP.k_nil); first
          | (refine AP.nil (hQ' _ ?_); clear hQ' Q')
          | refine AP.nil ?_)
      | ((with_reducible apply CP.k_reg); refine cp_regG fun Q' hQ' => ?_)
        | (with_reducible apply CP.k_reg1; refine cp_region ?_)
        | ((with_reducible apply CP.k_cond); first | refine cp_condT rfl ?_ | refine cp_condF rfl ?_ | refine cp_cond rfl (fun hc => ?_) (fun hc => ?_))
        | refine CP.go ?_
        | (simp only [List.append_eq, List.cons_append, List.nil_append]))
    all_goals first
      | (exfalso; simp at *; done)
      | (exfalso; simp at *; omega)
      | (refine RetQ.B [] ?_; (try dsimp only [resV, List.getD_cons_succ, List.getD_cons_zero]); (exact ⟨rfl, rfl⟩))
end Go.Proofs.Ytkdbedbefojieaa

namespace Go.Proofs.Ytkdbedbefojieaa
set_option linter.unusedVariables false
set_option linter.unusedSimpArgs false
set_option maxHeartbeats 8000000
open Go.RowKit
set_option maxRecDepth 100000
theorem same_ac (a b : List UInt8) (ha : a.length ≤ 1000000000) :
    AC Try.prog 30 [bs none a, bs none b] [] (fun v bs => v = B (decide (a = b)) ∧ bs = []) := by
  refine AC.N Try.func30 Try.ntmps30 ?_
  intro X
  simp only [nx, Nat.reduceAdd, Nat.reduceSub, BEq.rfl]
  repeat' (first
    | ((first
    | ((with_reducible apply AP.k_any); first
             | refine AP.S ?_
             | refine AP.E ?_
             | (refine AP.V (fun c hnil => ?_); simp only [nz])
      )
    
    | ((with_reducible apply AQ.k_any); first
                    | refine AQ.S ?_
                    | refine AQ.E ?_
      )
    )
      <;> (try simp only [nx, Nat.reduceAdd, Nat.reduceSub, BEq.rfl]))
    | ((with_reducible apply AP.k_nil); first
        | (refine AP.nil (hQ' _ ?_); clear hQ' Q')
        | refine AP.nil ?_)
    | ((with_reducible apply AQ.k_nil); first | (refine AQ.nil (hQ' _ ?_); clear hQ' Q') | refine AQ.nil ?_)
    | ((with_reducible apply CP.k_drw); refine cp_drw (by kernel_rfl) (by kernel_rfl) fun Q' hQ' => ?_)
    | ((with_reducible apply CP.k_drw1); refine cp_draw (by kernel_rfl) (by kernel_rfl) ?_)
    | ((with_reducible apply CP.k_reg); refine cp_regG fun Q' hQ' => ?_)
      | (with_reducible apply CP.k_reg1; refine cp_region ?_)
      | ((with_reducible apply CP.k_cond); first | refine cp_condT rfl ?_ | refine cp_condF rfl ?_ | refine cp_cond rfl (fun hc => ?_) (fun hc => ?_))
      | refine CP.go ?_
      | (simp only [List.append_eq, List.cons_append, List.nil_append]))
  · (refine RetQ.B [] ?_; (try dsimp only [resV, List.getD_cons_succ, List.getD_cons_zero]); ((have h : ¬ a = b := by rintro rfl; simp at hc); exact ⟨by simp [h], rfl⟩))
  · have hl : a.length = b.length := by simp at hc; omega
    refine cp_loopW (fun n s => ∃ k : Nat, k ≤ a.length ∧ n = a.length - k ∧ a.take k = b.take k ∧ s = ⟨tm 26 [(0, bs none a), (1, bs none b), (4, B false), (5, I k)], []⟩) a.length ⟨tm 26 [(0, bs none a), (1, bs none b), (4, B false), (5, I (0 : Nat))], []⟩ (by simp only [tm, List.foldl_cons, List.foldl_nil, List.replicate_succ, List.replicate_zero, List.set_cons_succ, List.set_cons_zero, Nat.reduceAdd]; (refine ⟨?_, ?_⟩ <;> (try dsimp only) <;> (repeat' (first | exact Wk.nil | exact WkB.nil | apply Wk.same | apply Wk.de | apply Wk.nl | apply WkB.same | apply WkB.drop)))) ⟨0, by omega, by omega, by simp, rfl⟩ ?_
    rintro n s ⟨k, hk, rfl, he, rfl⟩
    simp only [tm, List.foldl_cons, List.foldl_nil, List.replicate_succ, List.replicate_zero, List.set_cons_succ, List.set_cons_zero, Nat.reduceAdd]
    by_cases hlt : k < a.length
    · have hx : (a.map eB)[k]? = some (eB a[k]) := by simp [hlt]
      have hy : (b.map eB)[k]? = some (eB (b[k]'(by omega))) := by simp [show k < b.length by omega]
      have hw : IntKind.i64.wrap ((k : Int) + 1) = ((k + 1 : Nat) : Int) := wrap_i64 (by omega) (by omega)
      repeat' (first
        | ((first
        | ((with_reducible apply AP.k_any); first
                 | refine AP.S ?_
                 | refine AP.E ?_
                 | (refine AP.V (fun c hnil => ?_); simp only [nz])
          )
        
        | ((with_reducible apply AQ.k_any); first
                        | refine AQ.S ?_
                        | refine AQ.E ?_
          )
        )
          <;> (try simp only [nx, Nat.reduceAdd, Nat.reduceSub, BEq.rfl]))
        | ((with_reducible apply AP.k_nil); first
            | (refine AP.nil (hQ' _ ?_); clear hQ' Q')
            | refine AP.nil ?_)
        | ((with_reducible apply AQ.k_nil); first | (refine AQ.nil (hQ' _ ?_); clear hQ' Q') | refine AQ.nil ?_)
        | ((with_reducible apply CP.k_drw); refine cp_drw (by kernel_rfl) (by kernel_rfl) fun Q' hQ' => ?_)
        | ((with_reducible apply CP.k_drw1); refine cp_draw (by kernel_rfl) (by kernel_rfl) ?_)
        | ((with_reducible apply CP.k_reg); refine cp_regG fun Q' hQ' => ?_)
          | (with_reducible apply CP.k_reg1; refine cp_region ?_)
          | ((with_reducible apply CP.k_cond); first | refine cp_condT rfl ?_ | refine cp_condF rfl ?_ | refine cp_cond rfl (fun hc => ?_) (fun hc => ?_))
          | refine CP.go ?_
          | (simp only [List.append_eq, List.cons_append, List.nil_append]))
      · (refine RetQ.B [] ?_; (try dsimp only [resV, List.getD_cons_succ, List.getD_cons_zero]); ((have h : ¬ a = b := by rintro rfl; simp at hc); exact ⟨by simp [h], rfl⟩))
      · simp only [hw]
        refine ⟨a.length - (k + 1), ⟨tm 26 [(0, bs none a), (1, bs none b), (4, B false), (5, I (k + 1 : Nat))], []⟩, by omega, (by simp only [tm, List.foldl_cons, List.foldl_nil, List.replicate_succ, List.replicate_zero, List.set_cons_succ, List.set_cons_zero, Nat.reduceAdd]; (refine ⟨?_, ?_⟩ <;> (try dsimp only) <;> (repeat' (first | exact Wk.nil | exact WkB.nil | apply Wk.same | apply Wk.de | apply Wk.nl | apply WkB.same | apply WkB.drop)))), k + 1, by omega, rfl, ?_, rfl⟩
        rename_i hc
        have : a[k] = b[k]'(by omega) := by
          simp at hc
          exact UInt8.toNat_inj.1 (by omega)
        rw [List.take_succ_eq_append_getElem hlt, List.take_succ_eq_append_getElem (by omega), he, this]
      · exfalso; simp at *; omega
    · have hk' : k = a.length := by omega
      have hab : a = b := by
        rw [hk', List.take_of_length_le (Nat.le_refl _), List.take_of_length_le (by omega)] at he; exact he
      subst hab
      repeat' (first
        | ((first
        | ((with_reducible apply AP.k_any); first
                 | refine AP.S ?_
                 | refine AP.E ?_
                 | (refine AP.V (fun c hnil => ?_); simp only [nz])
          )
        
        | ((with_reducible apply AQ.k_any); first
                        | refine AQ.S ?_
                        | refine AQ.E ?_
          )
        )
          <;> (try simp only [nx, Nat.reduceAdd, Nat.reduceSub, BEq.rfl]))
        | ((with_reducible apply AP.k_nil); first
            | (refine AP.nil (hQ' _ ?_); clear hQ' Q')
            | refine AP.nil ?_)
        | ((with_reducible apply AQ.k_nil); first | (refine AQ.nil (hQ' _ ?_); clear hQ' Q') | refine AQ.nil ?_)
        | ((with_reducible apply CP.k_drw); refine cp_drw (by kernel_rfl) (by kernel_rfl) fun Q' hQ' => ?_)
        | ((with_reducible apply CP.k_drw1); refine cp_draw (by kernel_rfl) (by kernel_rfl) ?_)
        | ((with_reducible apply CP.k_reg); refine cp_regG fun Q' hQ' => ?_)
          | (with_reducible apply CP.k_reg1; refine cp_region ?_)
          | ((with_reducible apply CP.k_cond); first | refine cp_condT rfl ?_ | refine cp_condF rfl ?_ | refine cp_cond rfl (fun hc => ?_) (fun hc => ?_))
          | refine CP.go ?_
          | (simp only [List.append_eq, List.cons_append, List.nil_append]))
      all_goals first
        | (exfalso; simp at *; omega)
        | (refine RetQ.B [] ?_; (try dsimp only [resV, List.getD_cons_succ, List.getD_cons_zero]); (exact ⟨by simp, rfl⟩))
theorem cat_ac (a b : List UInt8) (ha : a.length ≤ 100000000) (hb : b.length ≤ 100000000) :
    AC Try.prog 97 [bs none a, bs none b] [] (fun v bs' => v = bs (some tU) (a ++ b) ∧ bs' = []) := by
  refine AC.N Try.func97 Try.ntmps97 ?_
  intro X
  simp only [nx, Nat.reduceAdd, Nat.reduceSub, BEq.rfl]
  repeat' (first
    | ((first
    | ((with_reducible apply AP.k_any); first
             | refine AP.S ?_
      )
    
    
    )
      <;> (try simp only [nx, Nat.reduceAdd, Nat.reduceSub, BEq.rfl]))
    | ((with_reducible apply AP.k_nil); first
        | (refine AP.nil (hQ' _ ?_); clear hQ' Q')
        | refine AP.nil ?_)
    | ((with_reducible apply CP.k_reg); refine cp_regG fun Q' hQ' => ?_)
      | (with_reducible apply CP.k_reg1; refine cp_region ?_)
      | ((with_reducible apply CP.k_cond); first | refine cp_condT rfl ?_ | refine cp_condF rfl ?_ | refine cp_cond rfl (fun hc => ?_) (fun hc => ?_))
      | refine CP.go ?_
      | (simp only [List.append_eq, List.cons_append, List.nil_append]))
  (refine RetQ.B [] ?_; (try dsimp only [resV, List.getD_cons_succ, List.getD_cons_zero]); (exact ⟨by simp, rfl⟩))
theorem copy_ac (a : List UInt8) (ha : a.length ≤ 100000000) :
    AC Try.prog 81 [bs none a] [] (fun v bs' => v = bs (some tU) a ∧ bs' = []) := by
  refine AC.N Try.func81 Try.ntmps81 ?_
  intro X
  simp only [nx, Nat.reduceAdd, Nat.reduceSub, BEq.rfl]
  repeat' (first
    | ((first
    | ((with_reducible apply AP.k_any); first
             | refine AP.S ?_
      )
    | ((with_reducible apply AP.k_any); refine AP.C (cat_ac a [] ha (by simp)) ?_)
    
    )
      <;> (try simp only [nx, Nat.reduceAdd, Nat.reduceSub, BEq.rfl]))
    | ((with_reducible apply AP.k_nil); first
        | (refine AP.nil (hQ' _ ?_); clear hQ' Q')
        | refine AP.nil ?_)
    | ((with_reducible apply CP.k_reg); refine cp_regG fun Q' hQ' => ?_)
      | (with_reducible apply CP.k_reg1; refine cp_region ?_)
      | ((with_reducible apply CP.k_cond); first | refine cp_condT rfl ?_ | refine cp_condF rfl ?_ | refine cp_cond rfl (fun hc => ?_) (fun hc => ?_))
      | refine CP.go ?_
      | (simp only [List.append_eq, List.cons_append, List.nil_append]))
  (refine RetQ.B [] ?_; (try dsimp only [resV, List.getD_cons_succ, List.getD_cons_zero]); (exact ⟨by simp, rfl⟩))
end Go.Proofs.Ytkdbedbefojieaa

namespace Go.Proofs.Ytkdbedbefojieaa
set_option linter.unusedVariables false
set_option linter.unusedSimpArgs false
set_option maxHeartbeats 8000000
open Go.RowKit
set_option maxRecDepth 100000
abbrev tI : TypeId := 3
abbrev eI (x : Int) : List AV := [I x]
theorem ro_I (l : List Int) : roE (l.map eI) = l.map eI := by rw [roE_map]; rfl
theorem wrap_u64_lt (n : Int) : (IntKind.u64.wrap n).toNat < 18446744073709551616 := by
  simp [IntKind.wrap, IntKind.bits, IntKind.signed]; omega
theorem dint_ac (n : Int) : AC Try.prog 60 [I n] [] (fun v bs' => v = bs none (intS n) ∧ bs' = []) := by
  have h := (rput_ac (IntKind.u64.wrap n).toNat 8 (by omega) (wrap_u64_lt n)).ro (r2 := bs none (intS n)) (by simp [AV.ro, ro_B, intS])
  rw [← u64_nn] at h
  refine AC.N Try.func60 Try.ntmps60 ?_
  intro X
  simp only [nx, Nat.reduceAdd, Nat.reduceSub, BEq.rfl]
  repeat' (first
    | ((first
    | ((with_reducible apply AP.k_any); first
             | refine AP.S ?_
      )
    | ((with_reducible apply AP.k_any); refine AP.C (h) ?_)
    )
      <;> (try simp only [nx, Nat.reduceAdd, Nat.reduceSub, BEq.rfl]))
    | ((with_reducible apply AP.k_nil); first
        | (refine AP.nil (hQ' _ ?_); clear hQ' Q')
        | refine AP.nil ?_)
    | ((with_reducible apply CP.k_reg); refine cp_regG fun Q' hQ' => ?_)
      | (with_reducible apply CP.k_reg1; refine cp_region ?_)
      | ((with_reducible apply CP.k_cond); first | refine cp_condT rfl ?_ | refine cp_condF rfl ?_ | refine cp_cond rfl (fun hc => ?_) (fun hc => ?_))
      | refine CP.go ?_
      | (simp only [List.append_eq, List.cons_append, List.nil_append]))
  (refine RetQ.B [] ?_; (try dsimp only [resV, List.getD_cons_succ, List.getD_cons_zero]); (exact ⟨rfl, rfl⟩))
theorem dflag_ac (b : Bool) : AC Try.prog 61 [B b] [] (fun v bs' => v = bs (some tU) (flagS b) ∧ bs' = []) := by
  cases b with
  | true =>
    refine AC.N Try.func61 Try.ntmps61 ?_
    intro X
    simp only [nx, Nat.reduceAdd, Nat.reduceSub, BEq.rfl]
    repeat' (first
      | ((first
      | ((with_reducible apply AP.k_any); first
               | refine AP.S ?_
        )
      
      )
        <;> (try simp only [nx, Nat.reduceAdd, Nat.reduceSub, BEq.rfl]))
      | ((with_reducible apply AP.k_nil); first
          | (refine AP.nil (hQ' _ ?_); clear hQ' Q')
          | refine AP.nil ?_)
      | ((with_reducible apply CP.k_reg); refine cp_regG fun Q' hQ' => ?_)
        | (with_reducible apply CP.k_reg1; refine cp_region ?_)
        | ((with_reducible apply CP.k_cond); first | refine cp_condT rfl ?_ | refine cp_condF rfl ?_ | refine cp_cond rfl (fun hc => ?_) (fun hc => ?_))
        | refine CP.go ?_
        | (simp only [List.append_eq, List.cons_append, List.nil_append]))
    (refine RetQ.B [] ?_; (try dsimp only [resV, List.getD_cons_succ, List.getD_cons_zero]); (exact ⟨rfl, rfl⟩))
  | false =>
    refine AC.N Try.func61 Try.ntmps61 ?_
    intro X
    simp only [nx, Nat.reduceAdd, Nat.reduceSub, BEq.rfl]
    repeat' (first
      | ((first
      | ((with_reducible apply AP.k_any); first
               | refine AP.S ?_
        )
      
      )
        <;> (try simp only [nx, Nat.reduceAdd, Nat.reduceSub, BEq.rfl]))
      | ((with_reducible apply AP.k_nil); first
          | (refine AP.nil (hQ' _ ?_); clear hQ' Q')
          | refine AP.nil ?_)
      | ((with_reducible apply CP.k_reg); refine cp_regG fun Q' hQ' => ?_)
        | (with_reducible apply CP.k_reg1; refine cp_region ?_)
        | ((with_reducible apply CP.k_cond); first | refine cp_condT rfl ?_ | refine cp_condF rfl ?_ | refine cp_cond rfl (fun hc => ?_) (fun hc => ?_))
        | refine CP.go ?_
        | (simp only [List.append_eq, List.cons_append, List.nil_append]))
    (refine RetQ.B [] ?_; (try dsimp only [resV, List.getD_cons_succ, List.getD_cons_zero]); (exact ⟨rfl, rfl⟩))
theorem dbytes_ac (b : List UInt8) (hb : b.length ≤ 10000000) : AC Try.prog 119 [bs none b] [] (fun v bs' => v = bs (some tU) (putS b.length 4 ++ b) ∧ bs' = []) := by
  have hw : IntKind.u64.wrap (b.length : Int) = (b.length : Int) := by simp [IntKind.wrap, IntKind.bits, IntKind.signed]; omega
  have h := (rput_ac b.length 4 (by omega) (by omega)).ro (r2 := bs none (putS b.length 4)) (by simp [AV.ro, ro_B])
  rw [← hw] at h
  have h2 := cat_ac (putS b.length 4) b (by simp [putS_length]) (by omega)
  refine AC.N Try.func119 Try.ntmps119 ?_
  intro X
  simp only [nx, Nat.reduceAdd, Nat.reduceSub, BEq.rfl]
  repeat' (first
    | ((first
    | ((with_reducible apply AP.k_any); first
             | refine AP.S ?_
      )
    | ((with_reducible apply AP.k_any); refine AP.C (h) ?_)
    | ((with_reducible apply AP.k_any); refine AP.C (h2) ?_)
    )
      <;> (try simp only [nx, Nat.reduceAdd, Nat.reduceSub, BEq.rfl]))
    | ((with_reducible apply AP.k_nil); first
        | (refine AP.nil (hQ' _ ?_); clear hQ' Q')
        | refine AP.nil ?_)
    | ((with_reducible apply CP.k_reg); refine cp_regG fun Q' hQ' => ?_)
      | (with_reducible apply CP.k_reg1; refine cp_region ?_)
      | ((with_reducible apply CP.k_cond); first | refine cp_condT rfl ?_ | refine cp_condF rfl ?_ | refine cp_cond rfl (fun hc => ?_) (fun hc => ?_))
      | refine CP.go ?_
      | (simp only [List.append_eq, List.cons_append, List.nil_append]))
  (refine RetQ.B [] ?_; (try dsimp only [resV, List.getD_cons_succ, List.getD_cons_zero]); (exact ⟨rfl, rfl⟩))
def numS (l : List Int) : List UInt8 := (l.map intS).flatten
theorem intS_length (n : Int) : (intS n).length = 8 := putS_length _ _
theorem numS_length (l : List Int) : (numS l).length = 8 * l.length := by
  induction l with
  | nil => rfl
  | cons a l ih => simp only [numS, List.map_cons, List.flatten_cons, List.length_append, List.length_cons, intS_length] at ih ⊢; omega
theorem numS_snoc (l : List Int) (x : Int) : numS (l ++ [x]) = numS l ++ intS x := by simp [numS]
theorem numbers_ac (l : List Int) (hl : l.length ≤ 1000000) : AC Try.prog 95 [.sl none 1 (l.map eI)] [] (fun v bs' => v = bs (some tU) (numS l) ∧ bs' = []) := by
  refine AC.N Try.func95 Try.ntmps95 ?_
  intro X
  simp only [nx, Nat.reduceAdd, Nat.reduceSub, BEq.rfl]
  repeat' (first
    | ((first
    | ((with_reducible apply AP.k_any); first
             | refine AP.S ?_
             | refine AP.E ?_
      )
    
    )
      <;> (try simp only [nx, Nat.reduceAdd, Nat.reduceSub, BEq.rfl]))
    | ((with_reducible apply AP.k_nil); first
        | (refine AP.nil (hQ' _ ?_); clear hQ' Q')
        | refine AP.nil ?_)
    | ((with_reducible apply CP.k_reg); refine cp_regG fun Q' hQ' => ?_)
      | (with_reducible apply CP.k_reg1; refine cp_region ?_)
      | ((with_reducible apply CP.k_cond); first | refine cp_condT rfl ?_ | refine cp_condF rfl ?_ | refine cp_cond rfl (fun hc => ?_) (fun hc => ?_))
      | refine CP.go ?_
      | (simp only [List.append_eq, List.cons_append, List.nil_append]))
  refine CP.gh (gh_nil (t := 3) (e := tU) (k := 1) rfl) ?_
  simp only [nx, Nat.reduceAdd, Nat.reduceSub, BEq.rfl]
  refine cp_loopS [3, 4, 5, 6, 7, 8, 9, 10, 11, 12, 13, 14, 15, 16, 17] (fun a : Nat × Nat => l.length - a.1) (fun a => a.1 ≤ l.length) (fun a => [(4, I a.1), (3, .hd 0 a.2)]) (fun a => [(0, ⟨a.2, .r tU 1 ((numS (l.take a.1)).map eB)⟩)]) (0, 1) (Nat.zero_le _) (by exact Gh.W) ?_
  rintro ⟨i, u⟩ hi
  simp only [setT, deT, setB, List.set_cons_succ, List.set_cons_zero]
  dsimp only at hi
  by_cases hlt : i < l.length
  · have hw : IntKind.i64.wrap ((i : Int) + 1) = ((i + 1 : Nat) : Int) := wrap_i64 (by omega) (by omega)
    have hn := numS_length (l.take i)
    have hlen : ((numS (l.take i)).map eB).length + ((intS l[i]).map eB).length ≤ 1000000000 := by
      rw [List.length_map, List.length_map, intS_length, hn, List.length_take]; omega
    have hx : (l.map eI)[i]? = some (eI l[i]) := by simp [hlt]
    repeat' (first
      | ((first
      | ((with_reducible apply AP.k_any); first
               | refine AP.S ?_
               | refine AP.E ?_
        )
      | ((with_reducible apply AP.k_any); refine AP.C (dint_ac l[i]) ?_)
      )
        <;> (try simp only [nx, Nat.reduceAdd, Nat.reduceSub, BEq.rfl]))
      | ((with_reducible apply AP.k_nil); first
          | (refine AP.nil (hQ' _ ?_); clear hQ' Q')
          | refine AP.nil ?_)
      | ((with_reducible apply CP.k_reg); refine cp_regG fun Q' hQ' => ?_)
        | (with_reducible apply CP.k_reg1; refine cp_region ?_)
        | ((with_reducible apply CP.k_cond); first | refine cp_condT rfl ?_ | refine cp_condF rfl ?_ | refine cp_cond rfl (fun hc => ?_) (fun hc => ?_))
        | refine CP.go ?_
        | (simp only [List.append_eq, List.cons_append, List.nil_append]))
    · simp only [hw]
      refine ⟨(i + 1, u + 1), by (dsimp only; omega), by (dsimp only; omega), ?_⟩
      dsimp only
      rw [List.take_succ_eq_append_getElem hlt, numS_snoc, List.map_append]
      exact Gh.W
    · exfalso; simp at *; omega
  · obtain rfl : i = l.length := by omega
    rw [List.take_length]
    repeat' (first
      | ((first
      | ((with_reducible apply AP.k_any); first
               | refine AP.S ?_
               | refine AP.E ?_
        )
      
      )
        <;> (try simp only [nx, Nat.reduceAdd, Nat.reduceSub, BEq.rfl]))
      | ((with_reducible apply AP.k_nil); first
          | (refine AP.nil (hQ' _ ?_); clear hQ' Q')
          | refine AP.nil ?_)
      | ((with_reducible apply CP.k_reg); refine cp_regG fun Q' hQ' => ?_)
        | (with_reducible apply CP.k_reg1; refine cp_region ?_)
        | ((with_reducible apply CP.k_cond); first | refine cp_condT rfl ?_ | refine cp_condF rfl ?_ | refine cp_cond rfl (fun hc => ?_) (fun hc => ?_))
        | refine CP.go ?_
        | (simp only [List.append_eq, List.cons_append, List.nil_append]))
    all_goals first
      | (exfalso; simp at *; done)
      | (exfalso; simp at *; omega)
      | (refine RetQ.B [] ?_; (try dsimp only [resV, List.getD_cons_succ, List.getD_cons_zero]); (exact ⟨rfl, rfl⟩))
end Go.Proofs.Ytkdbedbefojieaa

namespace Go.Proofs.Ytkdbedbefojieaa
set_option linter.unusedVariables false
set_option linter.unusedSimpArgs false
set_option maxHeartbeats 8000000
open Go.RowKit
set_option maxRecDepth 100000
def restF (e : Entry) : List UInt8 := numS [e.stamp, e.client, e.id] ++ (putS e.body.length 4 ++ e.body)
def entryF (e : Entry) : List UInt8 := intS e.pos ++ restF e
def memF (m : Member) : List UInt8 := numS [m.node, m.since] ++ flagS m.whole
def configF (c : Config) : List UInt8 := numS [c.epoch, c.members.length] ++ (c.members.map memF).flatten
theorem flagS_length (b : Bool) : (flagS b).length = 1 := by cases b <;> rfl
theorem memF_length (m : Member) : (memF m).length = 17 := by simp [memF, numS_length, flagS_length]
theorem restF_length (e : Entry) : (restF e).length = 28 + e.body.length := by simp [restF, numS_length, putS_length]; omega
theorem configF_length (c : Config) : (configF c).length = 16 + 17 * c.members.length := by
  have : ∀ l : List Member, ((l.map memF).flatten).length = 17 * l.length := by
    intro l
    induction l with
    | nil => rfl
    | cons a l ih => simp only [List.map_cons, List.flatten_cons, List.length_append, memF_length, List.length_cons, ih]; omega
  simp [configF, numS_length, this]
theorem drest_ac (e : Entry) (hb : e.body.length ≤ 10000000) : AC Try.prog 98 [.ag (eE none e)] [] (fun v bs' => v = bs (some tU) (restF e) ∧ bs' = []) := by
  have h1 := numbers_ac [e.stamp, e.client, e.id] (by simp)
  have h2 := (dbytes_ac e.body hb).ro (r2 := bs none (putS e.body.length 4 ++ e.body)) (by simp only [AV.ro, ro_B])
  have h3 := cat_ac (numS [e.stamp, e.client, e.id]) (putS e.body.length 4 ++ e.body) (by simp [numS_length]) (by simp [putS_length]; omega)
  refine AC.N Try.func98 Try.ntmps98 ?_
  intro X
  simp only [nx, Nat.reduceAdd, Nat.reduceSub, BEq.rfl]
  repeat' (first
    | ((first
    | ((with_reducible apply AP.k_any); first
             | refine AP.S ?_
      )
    
    )
      <;> (try simp only [nx, Nat.reduceAdd, Nat.reduceSub, BEq.rfl]))
    | ((with_reducible apply AP.k_nil); first
        | (refine AP.nil (hQ' _ ?_); clear hQ' Q')
        | refine AP.nil ?_)
    | ((with_reducible apply CP.k_reg); refine cp_regG fun Q' hQ' => ?_)
      | (with_reducible apply CP.k_reg1; refine cp_region ?_)
      | ((with_reducible apply CP.k_cond); first | refine cp_condT rfl ?_ | refine cp_condF rfl ?_ | refine cp_cond rfl (fun hc => ?_) (fun hc => ?_))
      | refine CP.go ?_
      | (simp only [List.append_eq, List.cons_append, List.nil_append]))
  refine CP.gh gh_slot ?_; simp only [nx, Nat.reduceAdd, Nat.reduceSub, BEq.rfl]
  refine CP.gh gh_slot ?_; simp only [nx, Nat.reduceAdd, Nat.reduceSub, BEq.rfl]
  refine CP.gh gh_slot ?_; simp only [nx, Nat.reduceAdd, Nat.reduceSub, BEq.rfl]
  refine cp_drawI (fun zs zb => ⟨setT zs.t [(3, cond (zb.getD 0 false) (.bp 0 1 1) (.tu [])), (4, cond (zb.getD 1 false) (I e.stamp) (.tu [])), (5, cond (zb.getD 2 false) (.bp 0 1 2) (.tu [])), (6, cond (zb.getD 3 false) (I e.client) (.tu [])), (7, cond (zb.getD 4 false) (.bp 0 1 3) (.tu [])), (8, cond (zb.getD 5 false) (I e.id) (.tu [])), (9, cond (zb.getD 6 false) (.hd 1 1) (.tu [])), (10, cond (zb.getD 7 false) (.hd 2 1) (.tu [])), (11, cond (zb.getD 8 false) (.bp 0 1 4) (.tu [])), (12, cond (zb.getD 9 false) (bs none e.body) (.tu [])), (13, cond (zb.getD 10 false) (bs none (putS e.body.length 4 ++ e.body)) (.tu [])), (14, cond (zb.getD 11 false) (.hd 3 1) (.tu [])), (2, cond (zb.getD 12 false) (.hd 3 1) (.sc (.slice none 0 0)))], (((zs.b.set 1 (cond (zb.getD 6 false) (⟨1, .r tI 1 [eI e.stamp, eI e.client, eI e.id]⟩) (zs.b.getD 1 ⟨0, .x⟩))).set 2 (cond (zb.getD 7 false) (⟨1, .r tU 1 ((numS [e.stamp, e.client, e.id]).map eB)⟩) (zs.b.getD 2 ⟨0, .x⟩))).set 3 (cond (zb.getD 11 false) (⟨1, .r tU 1 ((restF e).map eB)⟩) (zs.b.getD 3 ⟨0, .x⟩)))⟩) (by kernel_rfl) (by kernel_rfl) (by kernel_rfl) ?_ ?_
  rotate_left
  simp only [cond_true, cond_false, setT, List.set_cons_succ, List.set_cons_zero, List.getD_cons_succ, List.getD_cons_zero, List.set_cons_succ, List.length_cons, List.length_nil, List.replicate_succ, List.replicate_zero, Nat.reduceAdd]
  rotate_left
  · intro b hb' hcl
    obtain ⟨l0, b0, rfl, hb0⟩ := len_cons hb'
    obtain ⟨l1, b1, rfl, hb1⟩ := len_cons hb0
    obtain ⟨l2, b2, rfl, hb2⟩ := len_cons hb1
    obtain ⟨l3, b3, rfl, hb3⟩ := len_cons hb2
    obtain ⟨l4, b4, rfl, hb4⟩ := len_cons hb3
    obtain ⟨l5, b5, rfl, hb5⟩ := len_cons hb4
    obtain ⟨l6, b6, rfl, hb6⟩ := len_cons hb5
    obtain ⟨l7, b7, rfl, hb7⟩ := len_cons hb6
    obtain ⟨l8, b8, rfl, hb8⟩ := len_cons hb7
    obtain ⟨l9, b9, rfl, hb9⟩ := len_cons hb8
    obtain ⟨l10, b10, rfl, hb10⟩ := len_cons hb9
    obtain ⟨l11, b11, rfl, hb11⟩ := len_cons hb10
    obtain ⟨l12, b12, rfl, hb12⟩ := len_cons hb11
    obtain rfl := List.length_eq_zero_iff.1 hb12
    clear hb' hb0 hb1 hb2 hb3 hb4 hb5 hb6 hb7 hb8 hb9 hb10 hb11 hb12
    · simp only [closedB, depsOk, Region.binds, List.toList_toArray, List.all_cons, List.all_nil, List.getD_cons_succ, List.getD_cons_zero, Bool.not_true, Bool.not_false, Bool.true_or, Bool.false_or, Bool.and_true, Bool.true_and, Bool.or_true, Bool.and_false, Bool.or_false, Bool.false_and, Bool.and_eq_true, Bool.or_eq_true, Bool.not_eq_true'] at hcl
      simp only [StepsP]
      refine ⟨?_, ?_, ?_, ?_, ?_, ?_, ?_, ?_, ?_, ?_, ?_, ?_, ?_, trivial⟩
      · intro h1 h2
        simp [depsOk, Region.binds] at h1 h2
        subst h1
        (repeat (obtain ⟨rfl, h2⟩ := h2))
        (try subst h2)
        clear hcl
        simp only [cond_true, cond_false, setT, List.set_cons_succ, List.set_cons_zero, List.getD_cons_succ, List.getD_cons_zero, List.set_cons_succ]
        (with_reducible apply AP.k_any); first | (refine AP.sm false rfl ?_ ?_; focus ((repeat' (with_reducible apply And.intro)) <;> (first | exact True.intro | exact rfl | omega | (simp; omega) | (simp; done) | assumption | exact .inl rfl | (refine .inr ?_; simp; try omega)))) | fail "no step"
        all_goals (try simp only [nx, Nat.reduceAdd, Nat.reduceSub, BEq.rfl])
        refine AP.nil ?_
        exact ⟨rfl, rfl⟩
      · intro h1 h2
        simp [depsOk, Region.binds] at h1 h2
        subst h1
        (repeat (obtain ⟨rfl, h2⟩ := h2))
        (try subst h2)
        (first | (obtain rfl : l6 = false := by grind only) | skip)
        (first | (obtain rfl : l7 = false := by grind only) | skip)
        (first | (obtain rfl : l11 = false := by grind only) | skip)
        clear hcl
        simp only [cond_true, cond_false, setT, List.set_cons_succ, List.set_cons_zero, List.getD_cons_succ, List.getD_cons_zero, List.set_cons_succ]
        (with_reducible apply AP.k_any); first | (refine AP.sm false rfl ?_ ?_; focus ((repeat' (with_reducible apply And.intro)) <;> (first | exact True.intro | exact rfl | omega | (simp; omega) | (simp; done) | assumption | exact .inl rfl | (refine .inr ?_; simp; try omega)))) | (refine AP.el rfl ?_ (by (first | (refine ⟨?_, ?_⟩; assumption; rfl) | exact ⟨mapAt (by (first | omega | (simp; omega) | (simp; done) | assumption)), rfl⟩ | exact ⟨rfl, rfl⟩)) ?_; focus ((repeat' (with_reducible apply And.intro)) <;> (first | exact True.intro | exact rfl | omega | (simp; omega) | (simp; done) | assumption | exact .inl rfl | (refine .inr ?_; simp; try omega)))) | fail "no step"
        all_goals (try simp only [nx, Nat.reduceAdd, Nat.reduceSub, BEq.rfl])
        refine AP.nil ?_
        exact ⟨rfl, rfl⟩
      · intro h1 h2
        simp [depsOk, Region.binds] at h1 h2
        subst h1
        (repeat (obtain ⟨rfl, h2⟩ := h2))
        (try subst h2)
        clear hcl
        simp only [cond_true, cond_false, setT, List.set_cons_succ, List.set_cons_zero, List.getD_cons_succ, List.getD_cons_zero, List.set_cons_succ]
        (with_reducible apply AP.k_any); first | (refine AP.sm false rfl ?_ ?_; focus ((repeat' (with_reducible apply And.intro)) <;> (first | exact True.intro | exact rfl | omega | (simp; omega) | (simp; done) | assumption | exact .inl rfl | (refine .inr ?_; simp; try omega)))) | fail "no step"
        all_goals (try simp only [nx, Nat.reduceAdd, Nat.reduceSub, BEq.rfl])
        refine AP.nil ?_
        exact ⟨rfl, rfl⟩
      · intro h1 h2
        simp [depsOk, Region.binds] at h1 h2
        subst h1
        (repeat (obtain ⟨rfl, h2⟩ := h2))
        (try subst h2)
        (first | (obtain rfl : l6 = false := by grind only) | skip)
        (first | (obtain rfl : l7 = false := by grind only) | skip)
        (first | (obtain rfl : l11 = false := by grind only) | skip)
        clear hcl
        simp only [cond_true, cond_false, setT, List.set_cons_succ, List.set_cons_zero, List.getD_cons_succ, List.getD_cons_zero, List.set_cons_succ]
        (with_reducible apply AP.k_any); first | (refine AP.sm false rfl ?_ ?_; focus ((repeat' (with_reducible apply And.intro)) <;> (first | exact True.intro | exact rfl | omega | (simp; omega) | (simp; done) | assumption | exact .inl rfl | (refine .inr ?_; simp; try omega)))) | (refine AP.el rfl ?_ (by (first | (refine ⟨?_, ?_⟩; assumption; rfl) | exact ⟨mapAt (by (first | omega | (simp; omega) | (simp; done) | assumption)), rfl⟩ | exact ⟨rfl, rfl⟩)) ?_; focus ((repeat' (with_reducible apply And.intro)) <;> (first | exact True.intro | exact rfl | omega | (simp; omega) | (simp; done) | assumption | exact .inl rfl | (refine .inr ?_; simp; try omega)))) | fail "no step"
        all_goals (try simp only [nx, Nat.reduceAdd, Nat.reduceSub, BEq.rfl])
        refine AP.nil ?_
        exact ⟨rfl, rfl⟩
      · intro h1 h2
        simp [depsOk, Region.binds] at h1 h2
        subst h1
        (repeat (obtain ⟨rfl, h2⟩ := h2))
        (try subst h2)
        clear hcl
        simp only [cond_true, cond_false, setT, List.set_cons_succ, List.set_cons_zero, List.getD_cons_succ, List.getD_cons_zero, List.set_cons_succ]
        (with_reducible apply AP.k_any); first | (refine AP.sm false rfl ?_ ?_; focus ((repeat' (with_reducible apply And.intro)) <;> (first | exact True.intro | exact rfl | omega | (simp; omega) | (simp; done) | assumption | exact .inl rfl | (refine .inr ?_; simp; try omega)))) | fail "no step"
        all_goals (try simp only [nx, Nat.reduceAdd, Nat.reduceSub, BEq.rfl])
        refine AP.nil ?_
        exact ⟨rfl, rfl⟩
      · intro h1 h2
        simp [depsOk, Region.binds] at h1 h2
        subst h1
        (repeat (obtain ⟨rfl, h2⟩ := h2))
        (try subst h2)
        (first | (obtain rfl : l6 = false := by grind only) | skip)
        (first | (obtain rfl : l7 = false := by grind only) | skip)
        (first | (obtain rfl : l11 = false := by grind only) | skip)
        clear hcl
        simp only [cond_true, cond_false, setT, List.set_cons_succ, List.set_cons_zero, List.getD_cons_succ, List.getD_cons_zero, List.set_cons_succ]
        (with_reducible apply AP.k_any); first | (refine AP.sm false rfl ?_ ?_; focus ((repeat' (with_reducible apply And.intro)) <;> (first | exact True.intro | exact rfl | omega | (simp; omega) | (simp; done) | assumption | exact .inl rfl | (refine .inr ?_; simp; try omega)))) | (refine AP.el rfl ?_ (by (first | (refine ⟨?_, ?_⟩; assumption; rfl) | exact ⟨mapAt (by (first | omega | (simp; omega) | (simp; done) | assumption)), rfl⟩ | exact ⟨rfl, rfl⟩)) ?_; focus ((repeat' (with_reducible apply And.intro)) <;> (first | exact True.intro | exact rfl | omega | (simp; omega) | (simp; done) | assumption | exact .inl rfl | (refine .inr ?_; simp; try omega)))) | fail "no step"
        all_goals (try simp only [nx, Nat.reduceAdd, Nat.reduceSub, BEq.rfl])
        refine AP.nil ?_
        exact ⟨rfl, rfl⟩
      · intro h1 h2
        simp [depsOk, Region.binds] at h1 h2
        subst h1
        (repeat (obtain ⟨rfl, h2⟩ := h2))
        (try subst h2)
        (first | (obtain rfl : l7 = false := by grind only) | skip)
        (first | (obtain rfl : l11 = false := by grind only) | skip)
        clear hcl
        simp only [cond_true, cond_false, setT, List.set_cons_succ, List.set_cons_zero, List.getD_cons_succ, List.getD_cons_zero, List.set_cons_succ]
        (with_reducible apply AP.k_any); first | (refine AP.sm false rfl ?_ ?_; focus ((repeat' (with_reducible apply And.intro)) <;> (first | exact True.intro | exact rfl | omega | (simp; omega) | (simp; done) | assumption | exact .inl rfl | (refine .inr ?_; simp; try omega)))) | fail "no step"
        all_goals (try simp only [nx, Nat.reduceAdd, Nat.reduceSub, BEq.rfl])
        refine AP.nil ?_
        exact ⟨rfl, rfl⟩
      · intro h1 h2
        simp [depsOk, Region.binds] at h1 h2
        subst h1
        (repeat (obtain ⟨rfl, h2⟩ := h2))
        (try subst h2)
        (first | (obtain rfl : l6 = true := by grind only) | skip)
        (first | (obtain rfl : l11 = false := by grind only) | skip)
        clear hcl
        simp only [cond_true, cond_false, setT, List.set_cons_succ, List.set_cons_zero, List.getD_cons_succ, List.getD_cons_zero, List.set_cons_succ]
        (first
        | ((with_reducible apply AP.k_any); refine AP.CL (h1) ?_)
        | ((with_reducible apply AP.k_any); refine AP.C (h2) ?_)
        | ((with_reducible apply AP.k_any); refine AP.CL (h3) ?_)
        | fail "no arm")
        all_goals (try simp only [nx, Nat.reduceAdd, Nat.reduceSub, BEq.rfl])
        refine AP.nil ?_
        exact ⟨rfl, rfl⟩
      · intro h1 h2
        simp [depsOk, Region.binds] at h1 h2
        subst h1
        (repeat (obtain ⟨rfl, h2⟩ := h2))
        (try subst h2)
        clear hcl
        simp only [cond_true, cond_false, setT, List.set_cons_succ, List.set_cons_zero, List.getD_cons_succ, List.getD_cons_zero, List.set_cons_succ]
        (with_reducible apply AP.k_any); first | (refine AP.sm false rfl ?_ ?_; focus ((repeat' (with_reducible apply And.intro)) <;> (first | exact True.intro | exact rfl | omega | (simp; omega) | (simp; done) | assumption | exact .inl rfl | (refine .inr ?_; simp; try omega)))) | fail "no step"
        all_goals (try simp only [nx, Nat.reduceAdd, Nat.reduceSub, BEq.rfl])
        refine AP.nil ?_
        exact ⟨rfl, rfl⟩
      · intro h1 h2
        simp [depsOk, Region.binds] at h1 h2
        subst h1
        (repeat (obtain ⟨rfl, h2⟩ := h2))
        (try subst h2)
        (first | (obtain rfl : l11 = false := by grind only) | skip)
        clear hcl
        simp only [cond_true, cond_false, setT, List.set_cons_succ, List.set_cons_zero, List.getD_cons_succ, List.getD_cons_zero, List.set_cons_succ]
        (with_reducible apply AP.k_any); first | (refine AP.sm false rfl ?_ ?_; focus ((repeat' (with_reducible apply And.intro)) <;> (first | exact True.intro | exact rfl | omega | (simp; omega) | (simp; done) | assumption | exact .inl rfl | (refine .inr ?_; simp; try omega)))) | (refine AP.el rfl ?_ (by (first | (refine ⟨?_, ?_⟩; assumption; rfl) | exact ⟨mapAt (by (first | omega | (simp; omega) | (simp; done) | assumption)), rfl⟩ | exact ⟨rfl, rfl⟩)) ?_; focus ((repeat' (with_reducible apply And.intro)) <;> (first | exact True.intro | exact rfl | omega | (simp; omega) | (simp; done) | assumption | exact .inl rfl | (refine .inr ?_; simp; try omega)))) | fail "no step"
        all_goals (try simp only [nx, Nat.reduceAdd, Nat.reduceSub, BEq.rfl])
        refine AP.nil ?_
        exact ⟨rfl, rfl⟩
      · intro h1 h2
        simp [depsOk, Region.binds] at h1 h2
        subst h1
        (repeat (obtain ⟨rfl, h2⟩ := h2))
        (try subst h2)
        clear hcl
        simp only [cond_true, cond_false, setT, List.set_cons_succ, List.set_cons_zero, List.getD_cons_succ, List.getD_cons_zero, List.set_cons_succ]
        (first
        | ((with_reducible apply AP.k_any); refine AP.CL (h1) ?_)
        | ((with_reducible apply AP.k_any); refine AP.C (h2) ?_)
        | ((with_reducible apply AP.k_any); refine AP.CL (h3) ?_)
        | fail "no arm")
        all_goals (try simp only [nx, Nat.reduceAdd, Nat.reduceSub, BEq.rfl])
        refine AP.nil ?_
        exact ⟨rfl, rfl⟩
      · intro h1 h2
        simp [depsOk, Region.binds] at h1 h2
        subst h1
        (repeat (obtain ⟨rfl, h2⟩ := h2))
        (try subst h2)
        (first | (obtain rfl : l6 = true := by grind only) | skip)
        (first | (obtain rfl : l7 = true := by grind only) | skip)
        clear hcl
        simp only [cond_true, cond_false, setT, List.set_cons_succ, List.set_cons_zero, List.getD_cons_succ, List.getD_cons_zero, List.set_cons_succ]
        (first
        | ((with_reducible apply AP.k_any); refine AP.CL (h1) ?_)
        | ((with_reducible apply AP.k_any); refine AP.C (h2) ?_)
        | ((with_reducible apply AP.k_any); refine AP.CL (h3) ?_)
        | fail "no arm")
        all_goals (try simp only [nx, Nat.reduceAdd, Nat.reduceSub, BEq.rfl])
        refine AP.nil ?_
        exact ⟨rfl, rfl⟩
      · intro h1 h2
        simp [depsOk, Region.binds] at h1 h2
        subst h1
        (repeat (obtain ⟨rfl, h2⟩ := h2))
        (try subst h2)
        clear hcl
        simp only [cond_true, cond_false, setT, List.set_cons_succ, List.set_cons_zero, List.getD_cons_succ, List.getD_cons_zero, List.set_cons_succ]
        (with_reducible apply AP.k_any); first | (refine AP.sm false rfl ?_ ?_; focus ((repeat' (with_reducible apply And.intro)) <;> (first | exact True.intro | exact rfl | omega | (simp; omega) | (simp; done) | assumption | exact .inl rfl | (refine .inr ?_; simp; try omega)))) | fail "no step"
        all_goals (try simp only [nx, Nat.reduceAdd, Nat.reduceSub, BEq.rfl])
        refine AP.nil ?_
        exact ⟨rfl, rfl⟩
  repeat' (first
    | ((first
    | ((with_reducible apply AP.k_any); first
             | refine AP.S ?_
      )
    
    )
      <;> (try simp only [nx, Nat.reduceAdd, Nat.reduceSub, BEq.rfl]))
    | ((with_reducible apply AP.k_nil); first
        | (refine AP.nil (hQ' _ ?_); clear hQ' Q')
        | refine AP.nil ?_)
    | ((with_reducible apply CP.k_reg); refine cp_regG fun Q' hQ' => ?_)
      | (with_reducible apply CP.k_reg1; refine cp_region ?_)
      | ((with_reducible apply CP.k_cond); first | refine cp_condT rfl ?_ | refine cp_condF rfl ?_ | refine cp_cond rfl (fun hc => ?_) (fun hc => ?_))
      | refine CP.go ?_
      | (simp only [List.append_eq, List.cons_append, List.nil_append]))
  (refine RetQ.B [] ?_; (try dsimp only [resV, List.getD_cons_succ, List.getD_cons_zero]); (exact ⟨rfl, rfl⟩))
theorem dentry_ac (e : Entry) (hb : e.body.length ≤ 10000000) : AC Try.prog 62 [.ag (eE none e)] [] (fun v bs' => v = bs (some tU) (entryF e) ∧ bs' = []) := by
  have h1 := (drest_ac e hb).ro (r2 := bs none (restF e)) (by simp only [AV.ro, ro_B])
  have h2 := cat_ac (intS e.pos) (restF e) (by simp [intS_length]) (by simp [restF_length]; omega)
  refine AC.N Try.func62 Try.ntmps62 ?_
  intro X
  simp only [nx, Nat.reduceAdd, Nat.reduceSub, BEq.rfl]
  repeat' (first
    | ((first
    | ((with_reducible apply AP.k_any); first
             | refine AP.S ?_
      )
    
    )
      <;> (try simp only [nx, Nat.reduceAdd, Nat.reduceSub, BEq.rfl]))
    | ((with_reducible apply AP.k_nil); first
        | (refine AP.nil (hQ' _ ?_); clear hQ' Q')
        | refine AP.nil ?_)
    | ((with_reducible apply CP.k_reg); refine cp_regG fun Q' hQ' => ?_)
      | (with_reducible apply CP.k_reg1; refine cp_region ?_)
      | ((with_reducible apply CP.k_cond); first | refine cp_condT rfl ?_ | refine cp_condF rfl ?_ | refine cp_cond rfl (fun hc => ?_) (fun hc => ?_))
      | refine CP.go ?_
      | (simp only [List.append_eq, List.cons_append, List.nil_append]))
  refine CP.gh gh_slot ?_; simp only [nx, Nat.reduceAdd, Nat.reduceSub, BEq.rfl]
  refine cp_drawI (fun zs zb => ⟨setT zs.t [(3, cond (zb.getD 0 false) (.bp 0 1 0) (.tu [])), (4, cond (zb.getD 1 false) (I e.pos) (.tu [])), (5, cond (zb.getD 2 false) (bs none (intS e.pos)) (.tu [])), (6, cond (zb.getD 3 false) (.ag (eE none e)) (.tu [])), (7, cond (zb.getD 4 false) (bs none (restF e)) (.tu [])), (8, cond (zb.getD 5 false) (.hd 1 1) (.tu [])), (2, cond (zb.getD 6 false) (.hd 1 1) (.sc (.slice none 0 0)))], (zs.b.set 1 (cond (zb.getD 5 false) (⟨1, .r tU 1 ((entryF e).map eB)⟩) (zs.b.getD 1 ⟨0, .x⟩)))⟩) (by kernel_rfl) (by kernel_rfl) (by kernel_rfl) ?_ ?_
  rotate_left
  simp only [cond_true, cond_false, setT, List.set_cons_succ, List.set_cons_zero, List.getD_cons_succ, List.getD_cons_zero, List.set_cons_succ, List.length_cons, List.length_nil, List.replicate_succ, List.replicate_zero, Nat.reduceAdd]
  rotate_left
  · intro b hb' hcl
    obtain ⟨l0, b0, rfl, hb0⟩ := len_cons hb'
    obtain ⟨l1, b1, rfl, hb1⟩ := len_cons hb0
    obtain ⟨l2, b2, rfl, hb2⟩ := len_cons hb1
    obtain ⟨l3, b3, rfl, hb3⟩ := len_cons hb2
    obtain ⟨l4, b4, rfl, hb4⟩ := len_cons hb3
    obtain ⟨l5, b5, rfl, hb5⟩ := len_cons hb4
    obtain ⟨l6, b6, rfl, hb6⟩ := len_cons hb5
    obtain rfl := List.length_eq_zero_iff.1 hb6
    clear hb' hb0 hb1 hb2 hb3 hb4 hb5 hb6
    · simp only [closedB, depsOk, Region.binds, List.toList_toArray, List.all_cons, List.all_nil, List.getD_cons_succ, List.getD_cons_zero, Bool.not_true, Bool.not_false, Bool.true_or, Bool.false_or, Bool.and_true, Bool.true_and, Bool.or_true, Bool.and_false, Bool.or_false, Bool.false_and, Bool.and_eq_true, Bool.or_eq_true, Bool.not_eq_true'] at hcl
      simp only [StepsP]
      refine ⟨?_, ?_, ?_, ?_, ?_, ?_, ?_, trivial⟩
      · intro h1 h2
        simp [depsOk, Region.binds] at h1 h2
        subst h1
        (repeat (obtain ⟨rfl, h2⟩ := h2))
        (try subst h2)
        clear hcl
        simp only [cond_true, cond_false, setT, List.set_cons_succ, List.set_cons_zero, List.getD_cons_succ, List.getD_cons_zero, List.set_cons_succ]
        (with_reducible apply AP.k_any); first | (refine AP.sm false rfl ?_ ?_; focus ((repeat' (with_reducible apply And.intro)) <;> (first | exact True.intro | exact rfl | omega | (simp; omega) | (simp; done) | assumption | exact .inl rfl | (refine .inr ?_; simp; try omega)))) | fail "no step"
        all_goals (try simp only [nx, Nat.reduceAdd, Nat.reduceSub, BEq.rfl])
        refine AP.nil ?_
        exact ⟨rfl, rfl⟩
      · intro h1 h2
        simp [depsOk, Region.binds] at h1 h2
        subst h1
        (repeat (obtain ⟨rfl, h2⟩ := h2))
        (try subst h2)
        (first | (obtain rfl : l5 = false := by grind only) | skip)
        clear hcl
        simp only [cond_true, cond_false, setT, List.set_cons_succ, List.set_cons_zero, List.getD_cons_succ, List.getD_cons_zero, List.set_cons_succ]
        (with_reducible apply AP.k_any); first | (refine AP.sm false rfl ?_ ?_; focus ((repeat' (with_reducible apply And.intro)) <;> (first | exact True.intro | exact rfl | omega | (simp; omega) | (simp; done) | assumption | exact .inl rfl | (refine .inr ?_; simp; try omega)))) | (refine AP.el rfl ?_ (by (first | (refine ⟨?_, ?_⟩; assumption; rfl) | exact ⟨mapAt (by (first | omega | (simp; omega) | (simp; done) | assumption)), rfl⟩ | exact ⟨rfl, rfl⟩)) ?_; focus ((repeat' (with_reducible apply And.intro)) <;> (first | exact True.intro | exact rfl | omega | (simp; omega) | (simp; done) | assumption | exact .inl rfl | (refine .inr ?_; simp; try omega)))) | fail "no step"
        all_goals (try simp only [nx, Nat.reduceAdd, Nat.reduceSub, BEq.rfl])
        refine AP.nil ?_
        exact ⟨rfl, rfl⟩
      · intro h1 h2
        simp [depsOk, Region.binds] at h1 h2
        subst h1
        (repeat (obtain ⟨rfl, h2⟩ := h2))
        (try subst h2)
        clear hcl
        simp only [cond_true, cond_false, setT, List.set_cons_succ, List.set_cons_zero, List.getD_cons_succ, List.getD_cons_zero, List.set_cons_succ]
        (first
        | ((with_reducible apply AP.k_any); refine AP.C (dint_ac e.pos) ?_)
        | ((with_reducible apply AP.k_any); refine AP.C (h1) ?_)
        | ((with_reducible apply AP.k_any); refine AP.C (h2) ?_)
        | fail "no arm")
        all_goals (try simp only [nx, Nat.reduceAdd, Nat.reduceSub, BEq.rfl])
        refine AP.nil ?_
        exact ⟨rfl, rfl⟩
      · intro h1 h2
        simp [depsOk, Region.binds] at h1 h2
        subst h1
        (repeat (obtain ⟨rfl, h2⟩ := h2))
        (try subst h2)
        (first | (obtain rfl : l5 = false := by grind only) | skip)
        clear hcl
        simp only [cond_true, cond_false, setT, List.set_cons_succ, List.set_cons_zero, List.getD_cons_succ, List.getD_cons_zero, List.set_cons_succ]
        (with_reducible apply AP.k_any); first | (refine AP.sm false rfl ?_ ?_; focus ((repeat' (with_reducible apply And.intro)) <;> (first | exact True.intro | exact rfl | omega | (simp; omega) | (simp; done) | assumption | exact .inl rfl | (refine .inr ?_; simp; try omega)))) | (refine AP.el rfl ?_ (by (first | (refine ⟨?_, ?_⟩; assumption; rfl) | exact ⟨mapAt (by (first | omega | (simp; omega) | (simp; done) | assumption)), rfl⟩ | exact ⟨rfl, rfl⟩)) ?_; focus ((repeat' (with_reducible apply And.intro)) <;> (first | exact True.intro | exact rfl | omega | (simp; omega) | (simp; done) | assumption | exact .inl rfl | (refine .inr ?_; simp; try omega)))) | fail "no step"
        all_goals (try simp only [nx, Nat.reduceAdd, Nat.reduceSub, BEq.rfl])
        refine AP.nil ?_
        exact ⟨rfl, rfl⟩
      · intro h1 h2
        simp [depsOk, Region.binds] at h1 h2
        subst h1
        (repeat (obtain ⟨rfl, h2⟩ := h2))
        (try subst h2)
        clear hcl
        simp only [cond_true, cond_false, setT, List.set_cons_succ, List.set_cons_zero, List.getD_cons_succ, List.getD_cons_zero, List.set_cons_succ]
        (first
        | ((with_reducible apply AP.k_any); refine AP.C (dint_ac e.pos) ?_)
        | ((with_reducible apply AP.k_any); refine AP.C (h1) ?_)
        | ((with_reducible apply AP.k_any); refine AP.C (h2) ?_)
        | fail "no arm")
        all_goals (try simp only [nx, Nat.reduceAdd, Nat.reduceSub, BEq.rfl])
        refine AP.nil ?_
        exact ⟨rfl, rfl⟩
      · intro h1 h2
        simp [depsOk, Region.binds] at h1 h2
        subst h1
        (repeat (obtain ⟨rfl, h2⟩ := h2))
        (try subst h2)
        clear hcl
        simp only [cond_true, cond_false, setT, List.set_cons_succ, List.set_cons_zero, List.getD_cons_succ, List.getD_cons_zero, List.set_cons_succ]
        (first
        | ((with_reducible apply AP.k_any); refine AP.C (dint_ac e.pos) ?_)
        | ((with_reducible apply AP.k_any); refine AP.C (h1) ?_)
        | ((with_reducible apply AP.k_any); refine AP.C (h2) ?_)
        | fail "no arm")
        all_goals (try simp only [nx, Nat.reduceAdd, Nat.reduceSub, BEq.rfl])
        refine AP.nil ?_
        exact ⟨rfl, rfl⟩
      · intro h1 h2
        simp [depsOk, Region.binds] at h1 h2
        subst h1
        (repeat (obtain ⟨rfl, h2⟩ := h2))
        (try subst h2)
        clear hcl
        simp only [cond_true, cond_false, setT, List.set_cons_succ, List.set_cons_zero, List.getD_cons_succ, List.getD_cons_zero, List.set_cons_succ]
        (with_reducible apply AP.k_any); first | (refine AP.sm false rfl ?_ ?_; focus ((repeat' (with_reducible apply And.intro)) <;> (first | exact True.intro | exact rfl | omega | (simp; omega) | (simp; done) | assumption | exact .inl rfl | (refine .inr ?_; simp; try omega)))) | fail "no step"
        all_goals (try simp only [nx, Nat.reduceAdd, Nat.reduceSub, BEq.rfl])
        refine AP.nil ?_
        exact ⟨rfl, rfl⟩
  repeat' (first
    | ((first
    | ((with_reducible apply AP.k_any); first
             | refine AP.S ?_
      )
    
    )
      <;> (try simp only [nx, Nat.reduceAdd, Nat.reduceSub, BEq.rfl]))
    | ((with_reducible apply AP.k_nil); first
        | (refine AP.nil (hQ' _ ?_); clear hQ' Q')
        | refine AP.nil ?_)
    | ((with_reducible apply CP.k_reg); refine cp_regG fun Q' hQ' => ?_)
      | (with_reducible apply CP.k_reg1; refine cp_region ?_)
      | ((with_reducible apply CP.k_cond); first | refine cp_condT rfl ?_ | refine cp_condF rfl ?_ | refine cp_cond rfl (fun hc => ?_) (fun hc => ?_))
      | refine CP.go ?_
      | (simp only [List.append_eq, List.cons_append, List.nil_append]))
  (refine RetQ.B [] ?_; (try dsimp only [resV, List.getD_cons_succ, List.getD_cons_zero]); (exact ⟨rfl, rfl⟩))
theorem dconfig_ac (c : Config) (hl : c.members.length ≤ 1000000) : AC Try.prog 59 [.ag (eC none c)] [] (fun v bs' => v = bs (some tU) (configF c) ∧ bs' = []) := by
  have h1 := numbers_ac [c.epoch, c.members.length] (by simp)
  refine AC.N Try.func59 Try.ntmps59 ?_
  intro X
  simp only [nx, Nat.reduceAdd, Nat.reduceSub, BEq.rfl]
  repeat' (first
    | ((first
    | ((with_reducible apply AP.k_any); first
             | refine AP.S ?_
             | refine AP.E ?_
             | refine AP.T ?_
      )
    | ((with_reducible apply AP.k_any); refine AP.CL (h1) ?_)
    )
      <;> (try simp only [nx, Nat.reduceAdd, Nat.reduceSub, BEq.rfl]))
    | ((with_reducible apply AP.k_nil); first
        | (refine AP.nil (hQ' _ ?_); clear hQ' Q')
        | refine AP.nil ?_)
    | ((with_reducible apply CP.k_reg); refine cp_regG fun Q' hQ' => ?_)
      | (with_reducible apply CP.k_reg1; refine cp_region ?_)
      | ((with_reducible apply CP.k_cond); first | refine cp_condT rfl ?_ | refine cp_condF rfl ?_ | refine cp_cond rfl (fun hc => ?_) (fun hc => ?_))
      | refine CP.go ?_
      | (simp only [List.append_eq, List.cons_append, List.nil_append]))
  refine CP.gh gh_slot ?_; simp only [nx, Nat.reduceAdd, Nat.reduceSub, BEq.rfl]
  refine CP.gh gh_slot ?_; simp only [nx, Nat.reduceAdd, Nat.reduceSub, BEq.rfl]
  have hf : ∀ k, ((c.members.take k).map memF).flatten.length = 17 * (c.members.take k).length := by
    intro k
    generalize c.members.take k = l
    induction l with
    | nil => rfl
    | cons a l ih => simp only [List.map_cons, List.flatten_cons, List.length_append, memF_length, List.length_cons, ih]; omega
  refine cp_loopS [3, 4, 5, 13, 14, 15, 16, 17, 18, 19, 20, 21, 22, 23, 24, 25, 26, 27, 28, 29, 30, 31, 32, 33, 34, 35, 36, 37] (fun a : Nat × Nat × Nat × Nat × Nat => c.members.length - a.1) (fun a => a.1 ≤ c.members.length) (fun a => [(4, I a.1), (3, .hd 2 a.2.1)]) (fun a => [(1, ⟨a.2.2.1, .x⟩), (2, ⟨a.2.1, .r tU 1 ((numS [c.epoch, c.members.length] ++ ((c.members.take a.1).map memF).flatten).map eB)⟩), (3, ⟨a.2.2.2.1, .x⟩), (4, ⟨a.2.2.2.2, .x⟩)]) (0, 1, 1, 0, 0) (Nat.zero_le _) (by (simp only [List.take_zero, List.map_nil, List.flatten_nil, List.append_nil]); exact Gh.W) ?_
  rintro ⟨i, u, v1, v3, v4⟩ hi
  simp only [setT, deT, setB, List.set_cons_succ, List.set_cons_zero]
  dsimp only at hi
  by_cases hlt : i < c.members.length
  · have hw : IntKind.i64.wrap ((i : Int) + 1) = ((i + 1 : Nat) : Int) := wrap_i64 (by omega) (by omega)
    have h2 := numbers_ac [c.members[i].node, c.members[i].since] (by simp)
    have h3 := (dflag_ac c.members[i].whole).ro (r2 := bs none (flagS c.members[i].whole)) (by simp only [AV.ro, ro_B])
    have hn : (numS [c.epoch, (c.members.length : Int)] ++ ((c.members.take i).map memF).flatten).length ≤ 20000000 := by
      rw [List.length_append, hf, numS_length, List.length_take]; simp; omega
    have hstep : numS [c.epoch, (c.members.length : Int)] ++ ((c.members.take (i + 1)).map memF).flatten = numS [c.epoch, (c.members.length : Int)] ++ ((c.members.take i).map memF).flatten ++ numS [c.members[i].node, c.members[i].since] ++ flagS c.members[i].whole := by
      rw [List.take_succ_eq_append_getElem hlt, List.map_append, List.flatten_append]
      simp [memF]
    generalize hA : numS [c.epoch, (c.members.length : Int)] ++ ((c.members.take i).map memF).flatten = A at hn hstep ⊢
    have hl1 : (A.map eB).length + ((numS [c.members[i].node, c.members[i].since]).map eB).length ≤ 1000000000 := by
      rw [List.length_map, List.length_map, numS_length]; simp; omega
    have hl2 : (A.map eB ++ (numS [c.members[i].node, c.members[i].since]).map eB).length + ((flagS c.members[i].whole).map eB).length ≤ 1000000000 := by
      rw [List.length_append, List.length_map, List.length_map, List.length_map, numS_length, flagS_length]; simp; omega
    repeat' (first
      | ((first
      | ((with_reducible apply AP.k_any); first
               | refine AP.S ?_
               | refine AP.E ?_
               | refine AP.T ?_
        )
      | ((with_reducible apply AP.k_any); refine AP.CL (h2) ?_)
        | ((with_reducible apply AP.k_any); refine AP.C (h3) ?_)
      )
        <;> (try simp only [nx, Nat.reduceAdd, Nat.reduceSub, BEq.rfl]))
      | ((with_reducible apply AP.k_nil); first
          | (refine AP.nil (hQ' _ ?_); clear hQ' Q')
          | refine AP.nil ?_)
      | ((with_reducible apply CP.k_reg); refine cp_regG fun Q' hQ' => ?_)
        | (with_reducible apply CP.k_reg1; refine cp_region ?_)
        | ((with_reducible apply CP.k_cond); first | refine cp_condT rfl ?_ | refine cp_condF rfl ?_ | refine cp_cond rfl (fun hc => ?_) (fun hc => ?_))
        | refine CP.go ?_
        | (simp only [List.append_eq, List.cons_append, List.nil_append]))
    · simp only [hw]
      refine ⟨(i + 1, u + 1 + 1, v1 + 1, v3 + 1, v4 + 1), by (dsimp only; omega), by (dsimp only; omega), ?_⟩
      dsimp only
      rw [hstep, List.map_append, List.map_append]
      exact Gh.W
    · exfalso; simp at *; omega
  · obtain rfl : i = c.members.length := by omega
    rw [List.take_length]
    repeat' (first
      | ((first
      | ((with_reducible apply AP.k_any); first
               | refine AP.S ?_
               | refine AP.E ?_
               | refine AP.T ?_
        )
      
      )
        <;> (try simp only [nx, Nat.reduceAdd, Nat.reduceSub, BEq.rfl]))
      | ((with_reducible apply AP.k_nil); first
          | (refine AP.nil (hQ' _ ?_); clear hQ' Q')
          | refine AP.nil ?_)
      | ((with_reducible apply CP.k_reg); refine cp_regG fun Q' hQ' => ?_)
        | (with_reducible apply CP.k_reg1; refine cp_region ?_)
        | ((with_reducible apply CP.k_cond); first | refine cp_condT rfl ?_ | refine cp_condF rfl ?_ | refine cp_cond rfl (fun hc => ?_) (fun hc => ?_))
        | refine CP.go ?_
        | (simp only [List.append_eq, List.cons_append, List.nil_append]))
    all_goals first
      | (exfalso; simp at *; done)
      | (exfalso; simp at *; omega)
      | (refine RetQ.B [] ?_; (try dsimp only [resV, List.getD_cons_succ, List.getD_cons_zero]); (exact ⟨rfl, rfl⟩))
end Go.Proofs.Ytkdbedbefojieaa

namespace Go.Proofs.Ytkdbedbefojieaa
set_option linter.unusedVariables false
set_option linter.unusedSimpArgs false
open Go.RowKit Go.ChangeShapes Go.WideShapes Go.ChangeAt Go.Deep
set_option maxRecDepth 100000

/-! bulk -/
theorem bulk_one {H : Type} (d : DataW H) : 1 ≤ Rows.uptoBulk d := by
  cases d with
  | lit l => cases l <;> simp [Rows.uptoBulk]
  | _ => simp [Rows.uptoBulk]
theorem bulk_part {H : Type} {d : DataW H} {l : List (DataW H)} (h : d ∈ l) : Rows.uptoBulk d ≤ Rows.uptoBulkAll l := by
  induction l with
  | nil => cases h
  | cons x r ih =>
    simp only [Rows.uptoBulkAll]
    cases List.mem_cons.1 h with
    | inl e => subst e; omega
    | inr e => have := ih e; omega
theorem bulk_length {H : Type} (l : List (DataW H)) : l.length ≤ Rows.uptoBulkAll l := by
  induction l with
  | nil => simp [Rows.uptoBulkAll]
  | cons x r ih => have := bulk_one x; simp only [Rows.uptoBulkAll, List.length_cons]; omega

/-- what reads as data of a type is k cells of my data; N: its bulk -/
def OA (P : Program) (t : TypeId) (k : Nat) {α : Type} (ok : Nat → α → Prop) (e : α → List AV) : Prop :=
  P.cellsOf t = k ∧ (∀ m n d, m ≤ n → ok m d → ok n d) ∧ ∀ {H : Type} {enc : TypeId × Value → H} {w : World} {base : Nat} {fuel : Nat} {cs : List Value} {x : DataW H × List MemPlace},
    DataW.trod enc P w base (fun _ => true) true fuel t cs = some x → ∃ d : α, ok (Rows.uptoBulk x.1) d ∧ (∀ φ κ, RC w φ κ (fun b => b < w.heap.size) (e d) cs Ct.z) ∧ (∀ u ∈ cs, u.oneCell' = true) ∧ (∀ a ∈ e d, a.leaf = true) ∧ cs.length = k
section
variable {P : Program} {t e : TypeId} {α β : Type} {ok : Nat → α → Prop} {k : Nat} {en : α → List AV}
theorem OA.map (h : OA P t k ok en) (f : α → β) {ok' : Nat → β → Prop} {en' : β → List AV} (hm : ∀ m n d, m ≤ n → ok' m d → ok' n d) (h1 : ∀ n a, ok n a → ok' n (f a)) (h2 : ∀ a, en' (f a) = en a) : OA P t k ok' en' :=
  ⟨h.1, hm, fun hx => by
    obtain ⟨d, a, b, c⟩ := h.2.2 hx
    exact ⟨f d, h1 _ _ a, by rw [h2]; exact b, by rw [h2]; exact c⟩⟩
theorem OA.wmap (h : OA P t k ok en) (f : α → β) {ok' : Nat → β → Prop} {en' : β → List AV} (hm : ∀ m n d, m ≤ n → ok' m d → ok' n d) (h1 : ∀ n a, ok n a → ok' n (f a)) (h2 : ∀ n a, ok n a → en' (f a) = en a) : OA P t k ok' en' :=
  ⟨h.1, hm, fun hx => by
    obtain ⟨d, a, b, c⟩ := h.2.2 hx
    exact ⟨f d, h1 _ _ a, by rw [h2 _ _ a]; exact b, by rw [h2 _ _ a]; exact c⟩⟩
theorem RC.one_ {w : World} {φ : Fi} {κ : Ka} {R : Nat → Prop} {a : AV} {v : Value} (h : RV w φ κ R a v Ct.z) : RC w φ κ R [a] [v] Ct.z := .cons (S := Ct.z) (T := Ct.z) h .nil fun _ => rfl
theorem oa_int {κ : IntKind} (ht : P.underlying t = some (.int κ)) (hc : P.cellsOf t = 1) : OA P t 1 (fun _ (n : Int) => (Lit.int κ n).wf = true) (fun n => [.sc (.int κ n)]) :=
  ⟨hc, fun _ _ _ _ h => h, fun h => by
    obtain ⟨n, rfl, _, hw⟩ := DataW.trod_int ht h
    exact ⟨n, hw, fun _ _ => RC.one_ (.sc rfl), fun u hu => by simp at hu; subst hu; rfl, fun a ha => by simp at ha; subst ha; rfl, rfl⟩⟩
theorem oa_bool (ht : P.underlying t = some .bool) (hc : P.cellsOf t = 1) : OA P t 1 (fun _ (_ : Bool) => True) (fun n => [.sc (.bool n)]) :=
  ⟨hc, fun _ _ _ _ h => h, fun h => by
    obtain ⟨n, rfl, _⟩ := DataW.trod_bool ht h
    exact ⟨n, trivial, fun _ _ => RC.one_ (.sc rfl), fun u hu => by simp at hu; subst hu; rfl, fun a ha => by simp at ha; subst ha; rfl, rfl⟩⟩
theorem oa_string (ht : P.underlying t = some .string) (hc : P.cellsOf t = 1) : OA P t 1 (fun m (n : ByteArray) => n.size < m) (fun n => [.sc (.string n)]) :=
  ⟨hc, fun _ _ _ h k => Nat.lt_of_lt_of_le k h, fun h => by
    obtain ⟨n, rfl, rfl, hw⟩ := DataW.trod_string ht h
    exact ⟨n, by (simp [Rows.uptoBulk]), fun _ _ => RC.one_ (.sc rfl), fun u hu => by simp at hu; subst hu; rfl, fun a ha => by simp at ha; subst ha; rfl, rfl⟩⟩
theorem RE.of_rows {w : World} {φ : Fi} {κ : Ka} {R : Nat → Prop} {k : Nat} {en : α → List AV} {l : List α} (css : Nat → List Value) (h : ∀ i x, l[i]? = some x → RC w φ κ R (en x) (css i) Ct.z ∧ (∀ u ∈ css i, u.oneCell' = true) ∧ (∀ a ∈ en x, a.leaf = true) ∧ (css i).length = k) :
    RE w φ κ R k (l.map en) ((List.range l.length).flatMap css) Ct.z := by
  induction l generalizing css with
  | nil => exact .nil
  | cons x l ih =>
    have h0 := h 0 x rfl
    have h1 := ih (fun i => css (i + 1)) fun i y hy => h (i + 1) y (by simpa using hy)
    rw [List.length_cons, List.range_succ_eq_map, List.flatMap_cons, List.flatMap_map]
    exact .cons (S := Ct.z) (T := Ct.z) h0.1 h0.2.2.2 ⟨h0.2.1, h0.2.2.1⟩ h1 fun _ => rfl
theorem flat_at {css : Nat → List Value} {k n : Nat} (h : ∀ i, i < n → (css i).length = k) : ∀ {j : Nat} {u : Value}, ((List.range n).flatMap css)[j]? = some u → ∃ i r, i < n ∧ j = i * k + r ∧ (css i)[r]? = some u := by
  induction n generalizing css with
  | zero => intro j u hj; simp at hj
  | succ n ih =>
    intro j u hj
    rw [List.range_succ_eq_map, List.flatMap_cons, List.flatMap_map] at hj
    have h0 := h 0 (by omega)
    by_cases hjk : j < k
    · rw [List.getElem?_append_left (by omega)] at hj
      exact ⟨0, j, by omega, by omega, hj⟩
    · rw [List.getElem?_append_right (by omega)] at hj
      obtain ⟨i, r, hi, hr, hu⟩ := ih (css := fun i => css (i + 1)) (fun i hi => h (i + 1) (by omega)) hj
      refine ⟨i + 1, r, by omega, ?_, hu⟩
      rw [Nat.add_mul]; omega
theorem spot_none {w : World} {a : Addr} {u : Value} (h : w.cell? (a.add 0) = some u) : a.spot = none := by
  obtain ⟨ab, ao, asp⟩ := a
  cases hsp : asp with
  | none => rfl
  | some s =>
    rw [hsp] at h
    simp [Addr.add, World.cell?] at h
    split at h <;> simp at h
theorem oa_slice (hk : 0 < k) (ht : P.underlying t = some (.slice e)) (hc : P.cellsOf t = 1) (hE : OA P e k ok en) : OA P t 1 (fun N (l : List α) => (∀ x ∈ l, ok N x) ∧ l.length < N) (fun l => [.sl none k (l.map en)]) := by
  refine ⟨hc, fun m n d h k => ⟨fun x hx => hE.2.1 _ _ _ h (k.1 x hx), Nat.lt_of_lt_of_le k.2 h⟩, ?_⟩
  intro H enc w base fuel cs x h
  rcases open_slice ht h with ⟨rfl, rfl⟩ | ⟨a, len, cap, m, n, D, Pl, rfl, hb, hl, hm, hmm, hx, hi⟩
  · exact ⟨[], ⟨fun x hx => by simp at hx, by simp [Rows.uptoBulk]⟩, fun _ _ => RC.one_ .ni, fun u hu => by simp at hu; subst hu; rfl, fun a ha => by simp at ha; subst ha; rfl, rfl⟩
  · obtain rfl : m = cap := by simpa using hmm
    clear hmm
    have hbulk : ∀ i, i < len → Rows.uptoBulk (D i) ≤ Rows.uptoBulk x.1 := by
      intro i hi
      rw [hx]
      have := bulk_part (d := D i) (l := (List.range len).map D) (List.mem_map.2 ⟨i, List.mem_range.2 hi, rfl⟩)
      simp only [Rows.uptoBulk]
      omega
    have hlenb : len < Rows.uptoBulk x.1 := by
      rw [hx]
      have := bulk_length ((List.range len).map D)
      simp only [Rows.uptoBulk]
      simp only [List.length_map, List.length_range] at this
      omega
    have hall : ∀ i, i < len → ∃ (d : α) (cs' : List Value), (ok (Rows.uptoBulk x.1) d ∧ (∀ φ κ, RC w φ κ (fun b => b < w.heap.size) (en d) cs' Ct.z) ∧ (∀ u ∈ cs', u.oneCell' = true) ∧ (∀ a ∈ en d, a.leaf = true) ∧ cs'.length = k) ∧ ∀ j u, cs'[j]? = some u → w.cell? ((a.add (i * k)).add j) = some u := by
      intro i hil
      obtain ⟨cs', hcs, htr⟩ := hi i (by omega)
      obtain ⟨d, hd0, hd⟩ := hE.2.2 htr
      rw [hE.1] at hcs
      obtain ⟨_, hlen, hat⟩ := World.cells?_some hcs
      exact ⟨d, cs', ⟨hE.2.1 _ _ _ (hbulk i hil) hd0, hd⟩, fun j u hu => (hat j (by have := (List.getElem?_eq_some_iff.1 hu).1; omega)).trans hu⟩
    have hsp0 : 0 < m → a.spot = none := by
      intro h0
      obtain ⟨cs', hcs, _⟩ := hi 0 h0
      rw [hE.1] at hcs
      obtain ⟨_, hlen, hat⟩ := World.cells?_some hcs
      have hz := hat 0 (by omega)
      rw [List.getElem?_eq_getElem (by omega)] at hz
      have e0 : a.add (0 * k) = a := by simp [Addr.add]
      rw [e0] at hz
      exact spot_none hz
    have hex : ∃ (l : List α) (css : Nat → List Value), l.length = len ∧ ∀ i y, l[i]? = some y → (ok (Rows.uptoBulk x.1) y ∧ (∀ φ κ, RC w φ κ (fun b => b < w.heap.size) (en y) (css i) Ct.z) ∧ (∀ u ∈ css i, u.oneCell' = true) ∧ (∀ a ∈ en y, a.leaf = true) ∧ (css i).length = k) ∧ ∀ j u, (css i)[j]? = some u → w.cell? ((a.add (i * k)).add j) = some u := by
      clear hi hbulk hlenb h hx
      revert hall
      clear hl
      induction len with
      | zero => exact fun _ => ⟨[], fun _ => [], rfl, fun i x h => by simp at h⟩
      | succ q ih =>
        intro hall
        obtain ⟨l, css, hl, hq⟩ := ih (fun i hi => hall i (by omega))
        obtain ⟨d, cs', hd, hcs⟩ := hall q (by omega)
        refine ⟨l ++ [d], fun i => if i = q then cs' else css i, by simp [hl], fun i x hx => ?_⟩
        by_cases hik : i < q
        · rw [List.getElem?_append_left (by omega)] at hx
          simp only [show i ≠ q by omega, if_false]
          exact hq i x hx
        · have hik' : i = q := by have := (List.getElem?_eq_some_iff.1 hx).1; simp at this; omega
          subst hik'
          rw [List.getElem?_append_right (by omega), hl] at hx
          simp at hx
          subst hx
          simp only [if_true]
          exact ⟨hd, hcs⟩
    obtain ⟨l, css, hll, hq⟩ := hex
    refine ⟨l, ⟨fun y hy => ?_, by omega⟩, fun φ κ => ?_, fun u hu => by simp at hu; subst hu; rfl, fun a ha => by simp at ha; subst ha; rfl, rfl⟩
    · obtain ⟨i, hi, rfl⟩ := List.mem_iff_getElem.1 hy
      exact (hq i _ (List.getElem?_eq_getElem hi)).1.1
    · refine RC.one_ ?_
      subst hll
      by_cases h0 : m = 0
      · subst h0
        obtain rfl : l = [] := List.eq_nil_of_length_eq_zero (by omega)
        exact .ne
      · obtain ⟨ab, ao, asp⟩ := a
        have hspn := hsp0 (by omega)
        simp only at hspn
        subst hspn
        have hflat : ∀ j u, ((List.range l.length).flatMap css)[j]? = some u → w.cell? ⟨ab, ao + j, none⟩ = some u := by
          intro j u hj
          obtain ⟨i, r, hi, rfl, hu⟩ := flat_at (k := k) (fun i hi => (hq i _ (List.getElem?_eq_getElem hi)).1.2.2.2.2) hj
          have := (hq i _ (List.getElem?_eq_getElem hi)).2 r u hu
          have e1 : (Addr.add (Addr.add ⟨ab, ao, none⟩ (i * k)) r) = ⟨ab, ao + (i * k + r), none⟩ := by
            unfold Addr.add
            split <;> split <;> simp_all [Nat.add_assoc]
          rw [e1] at this
          exact this
        have hE' : RE w φ κ (fun b => b < w.heap.size) k (l.map en) ((List.range l.length).flatMap css) Ct.z := RE.of_rows css fun i x hx => ⟨(hq i x hx).1.2.1 φ κ, (hq i x hx).1.2.2⟩
        have := RV.ro (c := m) (b := ab) (o := ao) hE' (by simp; omega) hm (fun hne => by
          have hl0 : 0 < l.length := by cases l with
            | nil => exact absurd rfl hne
            | cons _ _ => simp
          have hc0 := (hq 0 _ (List.getElem?_eq_getElem hl0)).1.2.2.2.2
          have hz := (hq 0 _ (List.getElem?_eq_getElem hl0)).2 0 _ (List.getElem?_eq_getElem (by omega))
          simp only [Addr.add, Nat.zero_mul, if_true, World.cell?] at hz
          cases hh : w.heap[ab]? with
          | none => simp [hh] at hz
          | some o => exact (Array.getElem?_eq_some_iff.1 hh).1) hflat
        simpa using this
/-- fields from an offset on -/
def OFs (P : Program) (fs : List Field) (off k : Nat) {α : Type} (ok : Nat → α → Prop) (e : α → List AV) : Prop :=
  (∀ m n d, m ≤ n → ok m d → ok n d) ∧ ∀ {H : Type} {enc : TypeId × Value → H} {w : World} {base : Nat} {cs : List Value} {N : Nat},
    (∀ f ∈ fs, ∃ n y, DataW.trod enc P w base (fun _ => true) true n f.type ((cs.drop f.offset).take (P.cellsOf f.type)) = some y ∧ Rows.uptoBulk y.1 ≤ N) → off + k ≤ cs.length →
    ∃ d : α, ok N d ∧ (∀ φ κ, RC w φ κ (fun b => b < w.heap.size) (e d) ((cs.drop off).take k) Ct.z) ∧ (∀ u ∈ (cs.drop off).take k, u.oneCell' = true) ∧ (∀ a ∈ e d, a.leaf = true)
theorem of_nil {off : Nat} : OFs P [] off 0 (fun _ (_ : Unit) => True) (fun _ => []) :=
  ⟨fun _ _ _ _ _ => trivial, fun {H enc w base cs N} _ _ => ⟨(), trivial, fun φ κ => by simp; exact .nil, fun u hu => by simp at hu, fun a ha => by cases ha⟩⟩
theorem of_cons {f : Field} {fs : List Field} {off k2 : Nat} {ok2 : Nat → β → Prop} {en2 : β → List AV} (hoff : f.offset = off) (h1 : OA P f.type k ok en) (h2 : OFs P fs (off + k) k2 ok2 en2) :
    OFs P (f :: fs) off (k + k2) (fun N (d : α × β) => ok N d.1 ∧ ok2 N d.2) (fun d => en d.1 ++ en2 d.2) :=
  ⟨fun m n d h k => ⟨h1.2.1 _ _ _ h k.1, h2.1 _ _ _ h k.2⟩, fun {H enc w base cs N} hf hl => by
    subst hoff
    obtain ⟨n, y, hy, hyb⟩ := hf f (by simp)
    rw [h1.1] at hy
    obtain ⟨a, a1, a2, a3, a4, a5⟩ := h1.2.2 hy
    obtain ⟨b, b1, b2, b3, b4⟩ := h2.2 (cs := cs) (N := N) (fun g hg => hf g (by simp [hg])) (by omega)
    have e0 : (cs.drop f.offset).take (k + k2) = (cs.drop f.offset).take k ++ (cs.drop (f.offset + k)).take k2 := by
      rw [List.take_add, List.drop_drop]
    refine ⟨(a, b), ⟨h1.2.1 _ _ _ hyb a1, b1⟩, fun φ κ => ?_, fun u hu => ?_, fun x hx => ?_⟩
    · rw [e0]; exact (a2 φ κ).append (b2 φ κ) fun _ => rfl
    · rw [e0] at hu; exact (List.mem_append.1 hu).elim (a3 u) (b3 u)
    · exact (List.mem_append.1 hx).elim (a4 x) (b4 x)⟩
theorem oa_struct {fs : Array Field} (ht : P.underlying t = some (.struct fs)) (hc : P.cellsOf t = k) (h : OFs P fs.toList 0 k ok en) : OA P t k ok en :=
  ⟨hc, h.1, fun {H enc w base fuel cs x} hx => by
    obtain ⟨xs, n, _, hxx, hl, hn, hg⟩ := DataW.trod_struct ht hx
    obtain ⟨d, d1, d2, d3, d4⟩ := h.2 (cs := cs) (N := Rows.uptoBulk x.1) (fun f hf => by
      obtain ⟨i, hi, rfl⟩ := List.mem_iff_getElem.1 hf
      have hi' : i < fs.size := by simpa using hi
      have := hg i (fs.toList[i]) (by simp [hi'])
      rw [List.getElem?_eq_getElem (by omega)] at this
      refine ⟨n, _, this, ?_⟩
      have hb := bulk_part (d := (xs[i]'(by omega)).1) (l := xs.map (·.1)) (List.mem_map.2 ⟨_, List.getElem_mem _, rfl⟩)
      rw [hxx]
      simp only [Rows.uptoBulk]
      omega) (by omega)
    rw [hc] at hl
    have e0 : (cs.drop 0).take k = cs := by rw [List.drop_zero]; exact List.take_of_length_le (by omega)
    rw [e0] at d2 d3
    exact ⟨d, d1, d2, d3, d4, hl⟩⟩

/-! arguments -/
variable {H : Type} {enc : TypeId × Value → H} {w : World} {base b0 : Nat} {r : Reach} {v : Value} {d : DataW H} {p : List MemPlace}
theorem arg_ag {fs : Array Field} (ht : P.underlying t = some (.struct fs)) (hE : OA P t k ok en) (hv : Value.okWide P w r b0 t v) (h : DataW.Trod enc P w base (fun _ => true) true t v d p) :
    ∃ x, ok (Rows.uptoBulk d) x ∧ ∀ φ κ, RV w φ κ (fun b => b < w.heap.size) (.ag (en x)) v Ct.z := by
  obtain ⟨cs, rfl, _⟩ := okWide_struct ht hv
  obtain ⟨fuel, hf⟩ := h
  obtain ⟨x, x1, x2, x3, _⟩ := hE.2.2 hf
  simp only [Value.cells] at x2 x3
  refine ⟨x, x1, fun φ κ => ?_⟩
  have := RV.ag (x2 φ κ) x3
  simpa using this
theorem arg_1 {f : α → AV} (hE : OA P t 1 ok (fun x => [f x])) (hv : v.cells.toList = [v]) (h : DataW.Trod enc P w base (fun _ => true) true t v d p) :
    ∃ x, ok (Rows.uptoBulk d) x ∧ ∀ φ κ, RV w φ κ (fun b => b < w.heap.size) (f x) v Ct.z := by
  obtain ⟨fuel, hf⟩ := h
  obtain ⟨x, x1, x2, x3, _⟩ := hE.2.2 hf
  refine ⟨x, x1, fun φ κ => ?_⟩
  have h1 := x2 φ κ
  rw [hv] at h1
  cases h1 with
  | cons a b c => obtain ⟨rfl, rfl⟩ := Ct.split c; exact a
theorem cells_slice (ht : P.underlying t = some (.slice e)) (hv : Value.okWide P w r b0 t v) : v.cells.toList = [v] := by
  unfold Value.okWide at hv
  rw [ht] at hv
  cases v with
  | agg cs => simp only [Cell.okWide, ht] at hv; simp [Cell.ok, ht] at hv
  | tuple cs => simp only [Cell.okWide, ht] at hv; simp [Cell.ok, ht] at hv
  | _ => rfl
theorem cells_int {κ : IntKind} (ht : P.underlying t = some (.int κ)) (hv : Value.okWide P w r b0 t v) : v.cells.toList = [v] := by
  unfold Value.okWide at hv
  rw [ht] at hv
  cases v with
  | agg cs => simp only [Cell.okWide, ht] at hv; simp [Cell.ok, ht] at hv
  | tuple cs => simp only [Cell.okWide, ht] at hv; simp [Cell.ok, ht] at hv
  | _ => rfl
theorem cells_bool (ht : P.underlying t = some .bool) (hv : Value.okWide P w r b0 t v) : v.cells.toList = [v] := by
  unfold Value.okWide at hv
  rw [ht] at hv
  cases v with
  | agg cs => simp only [Cell.okWide, ht] at hv; simp [Cell.ok, ht] at hv
  | tuple cs => simp only [Cell.okWide, ht] at hv; simp [Cell.ok, ht] at hv
  | _ => rfl
theorem cells_string (ht : P.underlying t = some .string) (hv : Value.okWide P w r b0 t v) : v.cells.toList = [v] := by
  unfold Value.okWide at hv
  rw [ht] at hv
  cases v with
  | agg cs => simp only [Cell.okWide, ht] at hv; simp [Cell.ok, ht] at hv
  | tuple cs => simp only [Cell.okWide, ht] at hv; simp [Cell.ok, ht] at hv
  | _ => rfl

/-! what was there reads as it did -/
theorem trodAll_below (hl : laidOutB P = true) {W W' : World} (hb : Below W.heap.size W W') :
    ∀ (ts : List TypeId) (vs : List Value) (ds : List (DataW H)) (ps : List MemPlace), (∀ t ∈ ts, P.readableRec t = true ∧ t < P.types.size) → (∀ x ∈ ps, x.block < W.heap.size) →
      DataW.TrodAll enc P W 0 (fun _ => true) true ts vs ds ps → DataW.TrodAll enc P W' 0 (fun b => decide (b < W.heap.size)) true ts vs ds ps
  | [], [], [], ps, _, _, h => h
  | t :: ts, v :: vs, d :: ds, ps, hr, hlt, h => by
    obtain ⟨p, q, hd, hs, rfl⟩ := h
    have hrt := hr t (by simp)
    exact ⟨p, q, Below.trod hl hrt.1 hrt.2 hd hb fun x hx => hlt x (by simp [hx]), trodAll_below hl hb ts vs ds q (fun t ht => hr t (by simp [ht])) (fun x hx => hlt x (by simp [hx])) hs, rfl⟩
  | [], _ :: _, _, _, _, _, h => by simp [DataW.TrodAll] at h
  | [], [], _ :: _, _, _, _, h => by simp [DataW.TrodAll] at h
  | _ :: _, [], _, _, _, _, h => by simp [DataW.TrodAll] at h
  | _ :: _, _ :: _, [], _, _, _, h => by simp [DataW.TrodAll] at h
/-- THE LAST STEP: the law returns true and leaves alone what was there -/
theorem law_post {f : Func} {s : ChangeSpec} {apart fresh handsOn : Bool} {W W' : World} {args : Array Value} {ds gs : List (DataW H)} {before : List MemPlace} {tb : TypeId}
    (hl : laidOutB P = true) (hv : s.vars = []) (hrt : f.resultTypes = #[tb]) (hub : P.underlying tb = some .bool) (hread : (f.params.toList.all fun t => P.readableRec t && decide (t < P.types.size)) = true)
    (hW : DataW.Whole enc P f.params.toList s.vars apart W args.toList ds gs before) (hfn : ∀ gs', gs' = [] → s.fn H (ds ++ gs') = { results := [.lit (.bool true)], args := ds }) (hb : Below W.heap.size W W') :
    s.post enc P f apart fresh handsOn false W args (.bool true) W' := by
  have hread' : ∀ t ∈ f.params.toList, P.readableRec t = true ∧ t < P.types.size := fun t ht => by
    have := List.all_eq_true.1 hread t ht
    simpa using this
  have hW' := hW
  obtain ⟨p, q, hA, hV, rfl, hfz, hnd⟩ := hW
  rw [hv] at hV
  obtain ⟨rfl, rfl⟩ := trodVars_none hV
  have hlt : ∀ x ∈ p, x.block < W.heap.size := fun x hx => hW'.lt x (by simpa using hx)
  refine ⟨ds, [], p ++ [], [], p, [], hW', ?_, ?_, ?_, ?_, fun h => by cases h⟩
  · rw [hfn [] rfl, hrt]
    exact trodAll_mk1 (shut_bool hub true)
  · rw [hfn [] rfl]
    exact trodAll_below hl hb _ _ _ _ hread' hlt hA
  · rw [hv, hfn [] rfl]
    rfl
  · refine World.keptBut_mono (fun x hx => ⟨hx, .inr (.inl (by simpa using hx))⟩) (hb.frame (· ∈ p ++ []))
/-- a contract that tells true, in the world that the law is called in -/
theorem ac_law {fn : Nat} {args : List AV} {vs : List Value} {W : World} (h : AC P fn args [] (fun v bs' => v = .sc (.bool true) ∧ bs' = [])) (ha : ∀ φ κ, RC W φ κ (fun b => b < W.heap.size) args vs Ct.z) :
    Calls P fn vs.toArray W fun e W' => e = .returned (.bool true) ∧ Below W.heap.size W W' := by
  refine (h.2 W (fun _ _ => none) (fun _ _ => none) _ vs [] Ct.z Ct.z (ha _ _) .nil (fun i g hi => by simp at hi) (fun _ _ _ => rfl) (fun _ _ => rfl) (fun x => by simp [Ct.z]) (fun x hx => by simp [Ct.z] at hx) (fun x hx => ⟨hx, rfl⟩)).mono ?_
  rintro e W' ⟨v, r, bs', gs', Sr, Sb', φ', F, rfl, ⟨rfl, rfl⟩, hr, _, _, _, _, _, _, hf⟩
  cases hr with
  | sc => exact ⟨rfl, hf.os, hf.tape, hf.output, hf.size, fun b hb => hf.block b hb rfl⟩
theorem bulk_of {l : List (DataW H)} (hk : Rows.uptoSmall H l = true) : Rows.uptoBulkAll l ≤ 1048576 := of_decide_eq_true hk
end
end Go.Proofs.Ytkdbedbefojieaa

namespace Go.Proofs.Ytkdbedbefojieaa
set_option linter.unusedVariables false
set_option linter.unusedSimpArgs false
open Go.RowKit Go.ChangeShapes Go.WideShapes Go.ChangeAt Go.Deep
set_option maxRecDepth 100000
theorem laidOut : laidOutB Try.prog = true := by kernel_rfl
theorem own_knob : ownKnob Try.prog.godebug = none := by kernel_rfl
def I64 (x : Int) : Prop := -9223372036854775808 ≤ x ∧ x ≤ 9223372036854775807
theorem i64_of {x : Int} (h : (Lit.int .i64 x).wf = true) : I64 x := by simpa [Lit.wf, IntKind.min, IntKind.max, IntKind.signed, IntKind.bits, I64] using h
theorem u8_of {x : Int} (h : (Lit.int .u8 x).wf = true) : 0 ≤ x ∧ x ≤ 255 := by simpa [Lit.wf, IntKind.min, IntKind.max, IntKind.signed, IntKind.bits] using h
theorem oi : OA Try.prog 3 1 (fun _ x => I64 x) (fun x => [I x]) := (oa_int Try.underlying3 (by kernel_rfl)).map id (fun _ _ _ _ h => h) (fun _ _ h => i64_of h) fun _ => rfl
theorem obl : OA Try.prog 4 1 (fun _ (_ : Bool) => True) (fun x => [B x]) := oa_bool Try.underlying4 (by kernel_rfl)
theorem ou : OA Try.prog 5 1 (fun _ (_ : UInt8) => True) eB := (oa_int Try.underlying5 (by kernel_rfl)).wmap (fun x : Int => UInt8.ofNat x.toNat) (fun _ _ _ _ h => h) (fun _ _ _ => trivial) fun n x hx => by
  have h := u8_of hx
  have e : ((UInt8.ofNat x.toNat).toNat : Int) = x := by rw [UInt8.toNat_ofNat']; omega
  simp only [eB, U, e]
theorem obs : OA Try.prog 39 1 (fun N (l : List UInt8) => (∀ x ∈ l, True) ∧ l.length < N) (fun l => [bs none l]) := oa_slice (by decide) Try.underlying39 (by kernel_rfl) ou
end Go.Proofs.Ytkdbedbefojieaa

namespace Go.Proofs.Ytkdbedbefojieaa
set_option linter.unusedVariables false
set_option linter.unusedSimpArgs false
abbrev Rd := Int × List UInt8
/-- a reader f reads what g writes, of what is ok; and what it reads is so written -/
structure Cod {α : Type} (f : Rd → α × Rd) (g : α → List UInt8) (ok : α → Prop) : Prop where
  fwd : ∀ a rest, ok a → f (0, g a ++ rest) = (a, (0, rest))
  bwd : ∀ st, (f st).2.1 = 0 → st.2 = g (f st).1 ++ (f st).2.2 ∧ ok (f st).1
  stk : ∀ st, st.1 ≠ 0 → (f st).2.1 ≠ 0
theorem Cod.zero {α : Type} {f : Rd → α × Rd} {g : α → List UInt8} {ok : α → Prop} (h : Cod f g ok) {st : Rd} (h0 : (f st).2.1 = 0) : st.1 = 0 := by
  by_cases h1 : st.1 = 0
  · exact h1
  · exact absurd h0 (h.stk st h1)
theorem foldl_be (l : List UInt8) : ∀ x : Nat, l.foldl (fun x c => 256 * x + c.toNat) x = x * 256 ^ l.length + beN l := by
  induction l with
  | nil => intro x; simp [beN]
  | cons c l ih =>
    intro x
    have h0 := ih (256 * 0 + c.toNat)
    rw [List.foldl_cons, ih]
    unfold beN at *
    rw [List.foldl_cons, h0, List.length_cons, Nat.pow_succ]
    rw [Nat.add_mul, Nat.mul_zero, Nat.zero_add]
    have : 256 * x * 256 ^ l.length = x * (256 ^ l.length * 256) := by rw [Nat.mul_comm 256 x, Nat.mul_assoc, Nat.mul_comm 256]
    omega
theorem beN_cons (y : UInt8) (b : List UInt8) : beN (y :: b) = y.toNat * 256 ^ b.length + beN b := by
  have := foldl_be b y.toNat
  simp only [beN, List.foldl_cons] at *
  rw [Nat.mul_zero, Nat.zero_add]; exact this
theorem putS_mod (c x m : Nat) : ∀ n, n ≤ m → putS (c * 256 ^ m + x) n = putS x n
  | 0, _ => rfl
  | n + 1, h => by
    rw [putS, putS, putS_mod c x m n (by omega)]
    congr 2
    have hm : c * 256 ^ m = 256 ^ n * (256 * (c * 256 ^ (m - n - 1))) := by
      have h1 : 256 ^ m = 256 ^ n * (256 * 256 ^ (m - n - 1)) := by rw [← Nat.pow_succ', ← Nat.pow_add]; congr 1; omega
      rw [h1, Nat.mul_left_comm, Nat.mul_left_comm c 256]
    rw [hm, Nat.mul_add_div (Nat.pow_pos (by omega)), Nat.mul_add_mod]
theorem putS_beN : ∀ {n : Nat} {b : List UInt8}, b.length = n → putS (beN b) n = b
  | 0, b, h => by rw [List.length_eq_zero_iff.1 h]; rfl
  | n + 1, [], h => by simp at h
  | n + 1, y :: b, h => by
    have hb : b.length = n := by simpa using h
    have hlt := beN_lt b
    rw [hb] at hlt
    rw [beN_cons, hb, putS, putS_mod _ _ _ n (Nat.le_refl _), putS_beN hb]
    congr 1
    rw [Nat.mul_comm, Nat.mul_add_div (Nat.pow_pos (by omega)), Nat.div_eq_of_lt hlt, Nat.add_zero, Nat.mod_eq_of_lt y.toNat_lt]
    simp
theorem beN_putS (x : Nat) : ∀ n, beN (putS x n) = x % 256 ^ n
  | 0 => by simp [putS, beN, Nat.mod_one]
  | n + 1 => by
    rw [putS, beN_cons, putS_length, beN_putS x n]
    have : (UInt8.ofNat (x / 256 ^ n % 256)).toNat = x / 256 ^ n % 256 := by simp
    rw [this, Nat.pow_succ, Nat.mod_mul, Nat.mul_comm, Nat.add_comm]
theorem toI_u (n : Int) (h : I64 n) : toI (IntKind.u64.wrap n).toNat = n := by
  unfold I64 at h
  simp [toI, IntKind.wrap, IntKind.bits, IntKind.signed]; omega
theorem toI_in (x : Nat) : I64 (toI x) := by
  simp [toI, I64, IntKind.wrap, IntKind.bits, IntKind.signed]; omega
theorem intS_toI (x : Nat) (h : x < 2 ^ 64) : intS (toI x) = putS x 8 := by
  have : (IntKind.u64.wrap (toI x)).toNat = x := by simp [toI, IntKind.wrap, IntKind.bits, IntKind.signed]; omega
  rw [intS, this]
theorem beN_intS (n : Int) : beN (intS n) = (IntKind.u64.wrap n).toNat := by
  rw [intS, beN_putS, Nat.mod_eq_of_lt]
  have := wrap_u64_lt n
  simpa using this
/-- readers of so many bytes -/
theorem takeS_zero {α : Type} {z : α} {f : List UInt8 → α × Bool} {n : Nat} {st : Rd} (h : (takeS z f n st).2.1 = 0) :
    st.1 = 0 ∧ n ≤ st.2.length ∧ (f (st.2.take n)).2 = true ∧ takeS z f n st = ((f (st.2.take n)).1, (0, st.2.drop n)) := by
  unfold takeS at h ⊢
  split at h
  · rename_i h0; exact absurd h h0
  · rename_i h0
    split at h
    · simp at h
    · rename_i h1
      split at h
      · rename_i h2
        simp only [Int.toNat_natCast] at h2
        rw [if_neg h0, if_neg h1]
        simp only [Int.toNat_natCast]
        rw [if_pos h2]
        exact ⟨by simpa using h0, by omega, h2, rfl⟩
      · simp at h
theorem takeS_fwd {α : Type} {z : α} {f : List UInt8 → α × Bool} {n : Nat} {b rest : List UInt8} (hb : b.length = n) (hf : (f b).2 = true) : takeS z f n (0, b ++ rest) = ((f b).1, (0, rest)) := by
  subst hb
  unfold takeS
  rw [if_neg (by simp), if_neg (by simp; omega)]
  simp [hf]
theorem takeS_stk {α : Type} {z : α} {f : List UInt8 → α × Bool} {n : Int} {st : Rd} (h : st.1 ≠ 0) : (takeS z f n st).2.1 ≠ 0 := by
  unfold takeS; rw [if_pos h]; exact h
theorem cod_int : Cod intR intS I64 where
  fwd a rest h := by
    unfold intR
    have := takeS_fwd (z := (0 : Int)) (f := intG) (n := 8) (b := intS a) (rest := rest) (intS_length a) rfl
    rw [show ((8 : Nat) : Int) = 8 from rfl] at this
    rw [this, intG, beN_intS, toI_u a h]
  bwd st h := by
    obtain ⟨h1, h2, h3, h4⟩ := takeS_zero (n := 8) (f := intG) (z := (0 : Int)) (st := st) h
    have e : intR st = (toI (beN (st.2.take 8)), (0, st.2.drop 8)) := h4
    have hl : (st.2.take 8).length = 8 := by simp; omega
    rw [e]
    refine ⟨?_, toI_in _⟩
    have hlt := beN_lt (st.2.take 8)
    rw [hl] at hlt
    dsimp only
    rw [intS_toI _ (by simpa using hlt), putS_beN hl, List.take_append_drop]
  stk st h := takeS_stk h
theorem len1' {b : List UInt8} (h : b.length = 1) : b = [b.headD 0] := by
  match b, h with
  | [x], _ => rfl
theorem cod_byte : Cod byteR (fun x => [x]) (fun _ => True) where
  fwd a rest _ := takeS_fwd (z := (0 : UInt8)) (f := byteG) (n := 1) (b := [a]) (rest := rest) rfl rfl
  bwd st h := by
    obtain ⟨h1, h2, h3, h4⟩ := takeS_zero (n := 1) (f := byteG) (z := (0 : UInt8)) (st := st) h
    have e : byteR st = ((st.2.take 1).headD 0, (0, st.2.drop 1)) := h4
    have hl : (st.2.take 1).length = 1 := by simp; omega
    rw [e]
    refine ⟨?_, trivial⟩
    dsimp only
    rw [← len1' hl, List.take_append_drop]
  stk st h := takeS_stk h
theorem cod_flag : Cod flagR flagS (fun _ => True) where
  fwd a rest _ := by
    cases a with
    | true => exact takeS_fwd (z := false) (f := flagG) (n := 1) (b := [1]) (rest := rest) rfl rfl
    | false => exact takeS_fwd (z := false) (f := flagG) (n := 1) (b := [0]) (rest := rest) rfl rfl
  bwd st h := by
    obtain ⟨h1, h2, h3, h4⟩ := takeS_zero (n := 1) (f := flagG) (z := false) (st := st) h
    have e : flagR st = ((st.2.take 1).headD 0 == 1, (0, st.2.drop 1)) := h4
    have hl : (st.2.take 1).length = 1 := by simp; omega
    rw [e]
    refine ⟨?_, trivial⟩
    dsimp only
    have h5 := len1' hl
    generalize (st.2.take 1).headD 0 = x at h5 h3
    have h6 : st.2 = [x] ++ st.2.drop 1 := by rw [← h5, List.take_append_drop]
    have hx : x = 0 ∨ x = 1 := by
      simp only [flagG, h5, List.headD_cons, decide_eq_true_eq, UInt8.le_iff_toNat_le] at h3
      have h3' : x.toNat ≤ 1 := h3
      rcases (by omega : x.toNat = 0 ∨ x.toNat = 1) with h | h
      · exact .inl (UInt8.toNat_inj.1 (by simpa using h))
      · exact .inr (UInt8.toNat_inj.1 (by simpa using h))
    rcases hx with rfl | rfl
    · exact h6
    · exact h6
  stk st h := takeS_stk h
def bytesF' (b : List UInt8) : List UInt8 := putS b.length 4 ++ b
theorem cod_bytes : Cod bytesR bytesF' (fun b => b.length ≤ 65536) where
  fwd a rest h := by
    have hn : beN (putS a.length 4) = a.length := by rw [beN_putS, Nat.mod_eq_of_lt]; simp; omega
    have e1 : lenR (0, putS a.length 4 ++ (a ++ rest)) = ((a.length : Int), (0, a ++ rest)) := by
      have := takeS_fwd (z := (0 : Int)) (f := lenG) (n := 4) (b := putS a.length 4) (rest := a ++ rest) (putS_length _ _) (by simp [lenG, hn]; exact h)
      rw [show ((4 : Nat) : Int) = 4 from rfl] at this
      rw [lenR, this, lenG, hn]
    unfold bytesR bytesF'
    rw [List.append_assoc, e1]
    exact takeS_fwd (z := ([] : List UInt8)) (f := bytesG) (n := a.length) (b := a) (rest := rest) rfl rfl
  bwd st h := by
    have hz : (lenR st).2.1 = 0 := by
      by_cases h0 : (lenR st).2.1 = 0
      · exact h0
      · exact absurd h (takeS_stk h0)
    obtain ⟨h1, h2, h3, h4⟩ := takeS_zero (n := 4) (f := lenG) (z := (0 : Int)) (st := st) hz
    have e : lenR st = ((beN (st.2.take 4) : Int), (0, st.2.drop 4)) := h4
    have hl : (st.2.take 4).length = 4 := by simp; omega
    have hle : beN (st.2.take 4) ≤ 65536 := by simpa [lenG] using h3
    unfold bytesR at h ⊢
    rw [e] at h ⊢
    obtain ⟨g1, g2, g3, g4⟩ := takeS_zero (n := beN (st.2.take 4)) (f := bytesG) (z := ([] : List UInt8)) (st := (0, st.2.drop 4)) h
    dsimp only at g2 g4 ⊢
    rw [g4]
    dsimp only [bytesG, bytesF']
    have hll : ((st.2.drop 4).take (beN (st.2.take 4))).length = beN (st.2.take 4) := by rw [List.length_take]; omega
    rw [hll, putS_beN hl, List.append_assoc, List.take_append_drop, List.take_append_drop]
    exact ⟨rfl, hle⟩
  stk st h := by
    unfold bytesR
    exact takeS_stk (takeS_stk h)
/-- one behind the other -/
theorem Cod.seq {α β : Type} {f : Rd → α × Rd} {g : α → List UInt8} {ok : α → Prop} {f2 : α → Rd → β × Rd} {g2 : α → β → List UInt8} {ok2 : α → β → Prop} (h : Cod f g ok) (h2 : ∀ a, ok a → Cod (f2 a) (g2 a) (ok2 a)) (hs : ∀ a st, st.1 ≠ 0 → (f2 a st).2.1 ≠ 0) :
    Cod (fun st => (((f st).1, (f2 (f st).1 (f st).2).1), (f2 (f st).1 (f st).2).2)) (fun x => g x.1 ++ g2 x.1 x.2) (fun x => ok x.1 ∧ ok2 x.1 x.2) where
  fwd a rest hk := by
    rw [List.append_assoc, h.fwd _ _ hk.1]
    dsimp only
    rw [(h2 _ hk.1).fwd _ _ hk.2]
  bwd st h0 := by
    dsimp only at h0 ⊢
    have hz : (f st).2.1 = 0 := by
      by_cases h1 : (f st).2.1 = 0
      · exact h1
      · exact absurd h0 (hs _ _ h1)
    obtain ⟨a1, a2⟩ := h.bwd st hz
    obtain ⟨b1, b2⟩ := (h2 _ a2).bwd _ h0
    exact ⟨by rw [a1, List.append_assoc]; congr 1, a2, b2⟩
  stk st h0 := hs _ _ (h.stk st h0)
/-- the same under other names -/
theorem Cod.iso {α β : Type} {f : Rd → α × Rd} {g : α → List UInt8} {ok : α → Prop} (h : Cod f g ok) (t : α → β) (u : β → α) {f' : Rd → β × Rd} {g' : β → List UInt8} {ok' : β → Prop}
    (hf : ∀ st, f' st = (t (f st).1, (f st).2)) (hg : ∀ b, ok' b → g' b = g (u b)) (hok : ∀ b, ok' b → ok (u b) ∧ t (u b) = b) (hok' : ∀ a, ok a → ok' (t a) ∧ u (t a) = a) : Cod f' g' ok' where
  fwd b rest hb := by
    rw [hf, hg b hb, h.fwd _ _ (hok b hb).1]
    dsimp only
    rw [(hok b hb).2]
  bwd st h0 := by
    rw [hf] at h0 ⊢
    obtain ⟨a1, a2⟩ := h.bwd st h0
    have := hok' _ a2
    exact ⟨by dsimp only; rw [hg _ this.1, this.2]; exact a1, this.1⟩
  stk st h0 := by rw [hf]; exact h.stk st h0
end Go.Proofs.Ytkdbedbefojieaa

namespace Go.Proofs.Ytkdbedbefojieaa
set_option linter.unusedVariables false
set_option linter.unusedSimpArgs false
set_option maxHeartbeats 8000000
open Go.RowKit
set_option maxRecDepth 100000
def clientS (who id : Int) : Bool := decide (0 ≤ who) && decide (who < 4) && decide (1 ≤ id)
def mayE (e : Entry) : Bool := decide (1 ≤ e.pos) && decide (0 ≤ e.stamp) && clientS e.client e.id && decide (e.body.length ≤ 1024)
def allG (p : Nat → Member → Bool) : Nat → List Member → Bool
  | _, [] => true
  | k, m :: l => p k m && allG p (k + 1) l
theorem client_ac (who id : Int) : AC Try.prog 93 [I who, I id] [] (fun v bs => v = B (clientS who id) ∧ bs = []) := by
  refine AC.N Try.func93 Try.ntmps93 ?_
  intro X
  simp only [nx, Nat.reduceAdd, Nat.reduceSub, BEq.rfl]
  repeat' (first
    | ((first
    | ((with_reducible apply AP.k_any); first
             | refine AP.S ?_
             | (refine AP.Y ?_; dsimp only) | refine AP.G (fun hg => ?_) (fun hg => ?_)
      )
    
    
    )
      <;> (try simp only [nx, Nat.reduceAdd, Nat.reduceSub, BEq.rfl]))
    | ((with_reducible apply AP.k_nil); first
        | (refine AP.nil (hQ' _ ?_); clear hQ' Q')
        | refine AP.nil ?_)
    | ((with_reducible apply CP.k_reg); refine cp_regG fun Q' hQ' => ?_)
      | (with_reducible apply CP.k_reg1; refine cp_region ?_)
      | ((with_reducible apply CP.k_cond); first | refine cp_condT rfl ?_ | refine cp_condF rfl ?_ | refine cp_cond rfl (fun hc => ?_) (fun hc => ?_))
      | refine CP.go ?_
      | (simp only [List.append_eq, List.cons_append, List.nil_append]))
  all_goals (refine RetQ.B [] ?_; (try dsimp only [resV, List.getD_cons_succ, List.getD_cons_zero]); ((refine ⟨?_, rfl⟩; simp at *; simp [clientS]; try omega)))
theorem mayEntry_ac (e : Entry) : AC Try.prog 56 [.ag (eE none e)] [] (fun v bs => v = B (mayE e) ∧ bs = []) := by
  refine AC.N Try.func56 Try.ntmps56 ?_
  intro X
  simp only [nx, Nat.reduceAdd, Nat.reduceSub, BEq.rfl]
  repeat' (first
    | ((first
    | ((with_reducible apply AP.k_any); first
             | refine AP.S ?_
             | (refine AP.Y ?_; dsimp only) | refine AP.G (fun hg => ?_) (fun hg => ?_)
      )
    | ((with_reducible apply AP.k_any); refine AP.C (client_ac _ _) ?_)
    
    | ((with_reducible apply AQ.k_any); refine AQ.CQ (client_ac _ _) ?_))
      <;> (try simp only [nx, Nat.reduceAdd, Nat.reduceSub, BEq.rfl]))
    | ((with_reducible apply AP.k_nil); first
        | (refine AP.nil (hQ' _ ?_); clear hQ' Q')
        | refine AP.nil ?_)
    | ((with_reducible apply CP.k_reg); refine cp_regG fun Q' hQ' => ?_)
      | (with_reducible apply CP.k_reg1; refine cp_region ?_)
      | ((with_reducible apply CP.k_cond); first | refine cp_condT rfl ?_ | refine cp_condF rfl ?_ | refine cp_cond rfl (fun hc => ?_) (fun hc => ?_))
      | refine CP.go ?_
      | (simp only [List.append_eq, List.cons_append, List.nil_append]))
  all_goals (refine RetQ.B [] ?_; (try dsimp only [resV, List.getD_cons_succ, List.getD_cons_zero]); ((refine ⟨?_, rfl⟩; simp at *; simp [mayE, *]; try omega)))
theorem all1_ac (f : Nat) (c : Config) (p : Nat → Member → Bool) (l : List Member) (hl : l.length ≤ 100000000) (hf : ∀ (i : Nat) (h : i < l.length), AC Try.prog f [I i, .ag (eM l[i]), .bp 0 0 0] [.c 24 (eC none c)] (fun v bs => v = B (p i l[i]) ∧ bs = [.c 24 (eC none c)])) :
    AC Try.prog 90 [ms none l, .fn f [.bp 0 0 0]] [.c 24 (eC none c)] (fun v bs => v = B (allG p 0 l) ∧ bs = [.c 24 (eC none c)]) := by
  refine AC.N Try.func90 Try.ntmps90 ?_
  intro X
  simp only [nx, Nat.reduceAdd, Nat.reduceSub, BEq.rfl]
  repeat' (first
    | ((first
    | ((with_reducible apply AP.k_any); first
             | refine AP.S ?_
             | refine AP.E ?_
             | refine AP.T ?_
      )
    
    )
      <;> (try simp only [nx, Nat.reduceAdd, Nat.reduceSub, BEq.rfl]))
    | ((with_reducible apply AP.k_nil); first
        | (refine AP.nil (hQ' _ ?_); clear hQ' Q')
        | refine AP.nil ?_)
    | ((with_reducible apply CP.k_reg); refine cp_regG fun Q' hQ' => ?_)
      | (with_reducible apply CP.k_reg1; refine cp_region ?_)
      | ((with_reducible apply CP.k_cond); first | refine cp_condT rfl ?_ | refine cp_condF rfl ?_ | refine cp_cond rfl (fun hc => ?_) (fun hc => ?_))
      | refine CP.go ?_
      | (simp only [List.append_eq, List.cons_append, List.nil_append]))
  refine CP.gh gh_slot ?_
  simp only [nx, Nat.reduceAdd, Nat.reduceSub, BEq.rfl]
  refine cp_loopS [4, 5, 6, 9, 10, 11, 12, 13, 14, 15, 16, 17, 18, 19] (fun a : Nat × Nat => l.length - a.1) (fun a => a.1 ≤ l.length ∧ allG p 0 l = allG p a.1 (l.drop a.1)) (fun a => [(9, I a.1)]) (fun a => [(1, ⟨a.2, .x⟩)]) (0, 0) ⟨Nat.zero_le _, rfl⟩ (by exact Gh.W) ?_
  rintro ⟨k, u⟩ ⟨hk, he⟩
  simp only [setT, deT, setB, List.set_cons_succ, List.set_cons_zero]
  dsimp only at hk he
  by_cases hlt : k < l.length
  · have hw : IntKind.i64.wrap ((k : Int) + 1) = ((k + 1 : Nat) : Int) := wrap_i64 (by omega) (by omega)
    rw [List.drop_eq_getElem_cons hlt, allG] at he
    repeat' (first
      | ((first
      | ((with_reducible apply AP.k_any); first
               | refine AP.S ?_
               | refine AP.E ?_
               | refine AP.T ?_
        )
      | ((with_reducible apply AP.k_any); refine ap_callB 0 [(0, 0)] rfl rfl (fn := f) rfl (hf k hlt) (by (repeat' (first | exact PasC.nil | apply PasC.nil | apply PasC.cons | apply PasV.leaf rfl | apply PasV.nl | apply PasV.bp rfl | apply PasV.lend rfl rfl rfl | apply PasV.lend rfl rfl (ro_B _) | apply PasV.lend rfl rfl (ro_M _) | apply PasV.lend rfl rfl (ro_E _ _) | apply PasV.lend rfl rfl (ro_I _) | apply PasV.mv rfl | apply PasV.ag | apply PasV.fn | exact PasV.fs | apply PasV.any))) (by (repeat' (first | exact Out.nil | apply Out.cons rfl | exact ClsC.nil | apply ClsC.nl | apply ClsC.leaf rfl | apply ClsC.hd rfl | apply ClsC.fn | apply ClsC.fz rfl (ro_B _) | apply ClsC.fz rfl (ro_M _) | apply ClsC.fz rfl (ro_E _ _) | apply ClsC.fz rfl rfl))) rfl (by (repeat' (first | exact Bk.nil | apply Bk.cons rfl rfl rfl))) (by (repeat' (first | exact RnV.leaf rfl | exact RnC.nil | apply RnC.cons | apply RnV.ag | apply RnV.tu | exact RnV.bp rfl))) rfl ?_)
      )
        <;> (try simp only [nx, Nat.reduceAdd, Nat.reduceSub, BEq.rfl]))
      | ((with_reducible apply AP.k_nil); first
          | (refine AP.nil (hQ' _ ?_); clear hQ' Q')
          | refine AP.nil ?_)
      | ((with_reducible apply CP.k_reg); refine cp_regG fun Q' hQ' => ?_)
        | (with_reducible apply CP.k_reg1; refine cp_region ?_)
        | ((with_reducible apply CP.k_cond); first | refine cp_condT rfl ?_ | refine cp_condF rfl ?_ | refine cp_cond rfl (fun hc => ?_) (fun hc => ?_))
        | refine CP.go ?_
        | (simp only [List.append_eq, List.cons_append, List.nil_append]))
    · (refine RetQ.B [(0, 0)] ?_; (try dsimp only [resV, List.getD_cons_succ, List.getD_cons_zero]); ((have h : p k l[k] = false := by simpa using hc); exact ⟨by rw [he, h, Bool.false_and], rfl⟩))
    · simp only [hw]
      exact ⟨(k + 1, u + 1), by (dsimp only; omega), ⟨by (dsimp only; omega), by (have h : p k l[k] = true := by simpa using hc); rw [he, h, Bool.true_and]⟩, by exact Gh.W⟩
    · exfalso; simp at *; omega
  · rw [List.drop_of_length_le (by omega), allG] at he
    repeat' (first
      | ((first
      | ((with_reducible apply AP.k_any); first
               | refine AP.S ?_
               | refine AP.E ?_
               | refine AP.T ?_
        )
      
      )
        <;> (try simp only [nx, Nat.reduceAdd, Nat.reduceSub, BEq.rfl]))
      | ((with_reducible apply AP.k_nil); first
          | (refine AP.nil (hQ' _ ?_); clear hQ' Q')
          | refine AP.nil ?_)
      | ((with_reducible apply CP.k_reg); refine cp_regG fun Q' hQ' => ?_)
        | (with_reducible apply CP.k_reg1; refine cp_region ?_)
        | ((with_reducible apply CP.k_cond); first | refine cp_condT rfl ?_ | refine cp_condF rfl ?_ | refine cp_cond rfl (fun hc => ?_) (fun hc => ?_))
        | refine CP.go ?_
        | (simp only [List.append_eq, List.cons_append, List.nil_append]))
    all_goals first
      | (exfalso; simp at *; done)
      | (exfalso; simp at *; omega)
      | (refine RetQ.B [(0, 0)] ?_; (try dsimp only [resV, List.getD_cons_succ, List.getD_cons_zero]); (exact ⟨by rw [he], rfl⟩))
theorem all2_ac (f : Nat) (m : Member) (p : Nat → Member → Bool) (l : List Member) (hl : l.length ≤ 100000000) (hf : ∀ (i : Nat) (h : i < l.length), AC Try.prog f [I i, .ag (eM l[i]), .bp 0 0 0] [.c tM (eM m)] (fun v bs => v = B (p i l[i]) ∧ bs = [.c tM (eM m)])) :
    AC Try.prog 90 [ms none l, .fn f [.bp 0 0 0]] [.c tM (eM m)] (fun v bs => v = B (allG p 0 l) ∧ bs = [.c tM (eM m)]) := by
  refine AC.N Try.func90 Try.ntmps90 ?_
  intro X
  simp only [nx, Nat.reduceAdd, Nat.reduceSub, BEq.rfl]
  repeat' (first
    | ((first
    | ((with_reducible apply AP.k_any); first
             | refine AP.S ?_
             | refine AP.E ?_
             | refine AP.T ?_
      )
    
    )
      <;> (try simp only [nx, Nat.reduceAdd, Nat.reduceSub, BEq.rfl]))
    | ((with_reducible apply AP.k_nil); first
        | (refine AP.nil (hQ' _ ?_); clear hQ' Q')
        | refine AP.nil ?_)
    | ((with_reducible apply CP.k_reg); refine cp_regG fun Q' hQ' => ?_)
      | (with_reducible apply CP.k_reg1; refine cp_region ?_)
      | ((with_reducible apply CP.k_cond); first | refine cp_condT rfl ?_ | refine cp_condF rfl ?_ | refine cp_cond rfl (fun hc => ?_) (fun hc => ?_))
      | refine CP.go ?_
      | (simp only [List.append_eq, List.cons_append, List.nil_append]))
  refine CP.gh gh_slot ?_
  simp only [nx, Nat.reduceAdd, Nat.reduceSub, BEq.rfl]
  refine cp_loopS [4, 5, 6, 9, 10, 11, 12, 13, 14, 15, 16, 17, 18, 19] (fun a : Nat × Nat => l.length - a.1) (fun a => a.1 ≤ l.length ∧ allG p 0 l = allG p a.1 (l.drop a.1)) (fun a => [(9, I a.1)]) (fun a => [(1, ⟨a.2, .x⟩)]) (0, 0) ⟨Nat.zero_le _, rfl⟩ (by exact Gh.W) ?_
  rintro ⟨k, u⟩ ⟨hk, he⟩
  simp only [setT, deT, setB, List.set_cons_succ, List.set_cons_zero]
  dsimp only at hk he
  by_cases hlt : k < l.length
  · have hw : IntKind.i64.wrap ((k : Int) + 1) = ((k + 1 : Nat) : Int) := wrap_i64 (by omega) (by omega)
    rw [List.drop_eq_getElem_cons hlt, allG] at he
    repeat' (first
      | ((first
      | ((with_reducible apply AP.k_any); first
               | refine AP.S ?_
               | refine AP.E ?_
               | refine AP.T ?_
        )
      | ((with_reducible apply AP.k_any); refine ap_callB 0 [(0, 0)] rfl rfl (fn := f) rfl (hf k hlt) (by (repeat' (first | exact PasC.nil | apply PasC.nil | apply PasC.cons | apply PasV.leaf rfl | apply PasV.nl | apply PasV.bp rfl | apply PasV.lend rfl rfl rfl | apply PasV.lend rfl rfl (ro_B _) | apply PasV.lend rfl rfl (ro_M _) | apply PasV.lend rfl rfl (ro_E _ _) | apply PasV.lend rfl rfl (ro_I _) | apply PasV.mv rfl | apply PasV.ag | apply PasV.fn | exact PasV.fs | apply PasV.any))) (by (repeat' (first | exact Out.nil | apply Out.cons rfl | exact ClsC.nil | apply ClsC.nl | apply ClsC.leaf rfl | apply ClsC.hd rfl | apply ClsC.fn | apply ClsC.fz rfl (ro_B _) | apply ClsC.fz rfl (ro_M _) | apply ClsC.fz rfl (ro_E _ _) | apply ClsC.fz rfl rfl))) rfl (by (repeat' (first | exact Bk.nil | apply Bk.cons rfl rfl rfl))) (by (repeat' (first | exact RnV.leaf rfl | exact RnC.nil | apply RnC.cons | apply RnV.ag | apply RnV.tu | exact RnV.bp rfl))) rfl ?_)
      )
        <;> (try simp only [nx, Nat.reduceAdd, Nat.reduceSub, BEq.rfl]))
      | ((with_reducible apply AP.k_nil); first
          | (refine AP.nil (hQ' _ ?_); clear hQ' Q')
          | refine AP.nil ?_)
      | ((with_reducible apply CP.k_reg); refine cp_regG fun Q' hQ' => ?_)
        | (with_reducible apply CP.k_reg1; refine cp_region ?_)
        | ((with_reducible apply CP.k_cond); first | refine cp_condT rfl ?_ | refine cp_condF rfl ?_ | refine cp_cond rfl (fun hc => ?_) (fun hc => ?_))
        | refine CP.go ?_
        | (simp only [List.append_eq, List.cons_append, List.nil_append]))
    · (refine RetQ.B [(0, 0)] ?_; (try dsimp only [resV, List.getD_cons_succ, List.getD_cons_zero]); ((have h : p k l[k] = false := by simpa using hc); exact ⟨by rw [he, h, Bool.false_and], rfl⟩))
    · simp only [hw]
      exact ⟨(k + 1, u + 1), by (dsimp only; omega), ⟨by (dsimp only; omega), by (have h : p k l[k] = true := by simpa using hc); rw [he, h, Bool.true_and]⟩, by exact Gh.W⟩
    · exfalso; simp at *; omega
  · rw [List.drop_of_length_le (by omega), allG] at he
    repeat' (first
      | ((first
      | ((with_reducible apply AP.k_any); first
               | refine AP.S ?_
               | refine AP.E ?_
               | refine AP.T ?_
        )
      
      )
        <;> (try simp only [nx, Nat.reduceAdd, Nat.reduceSub, BEq.rfl]))
      | ((with_reducible apply AP.k_nil); first
          | (refine AP.nil (hQ' _ ?_); clear hQ' Q')
          | refine AP.nil ?_)
      | ((with_reducible apply CP.k_reg); refine cp_regG fun Q' hQ' => ?_)
        | (with_reducible apply CP.k_reg1; refine cp_region ?_)
        | ((with_reducible apply CP.k_cond); first | refine cp_condT rfl ?_ | refine cp_condF rfl ?_ | refine cp_cond rfl (fun hc => ?_) (fun hc => ?_))
        | refine CP.go ?_
        | (simp only [List.append_eq, List.cons_append, List.nil_append]))
    all_goals first
      | (exfalso; simp at *; done)
      | (exfalso; simp at *; omega)
      | (refine RetQ.B [(0, 0)] ?_; (try dsimp only [resV, List.getD_cons_succ, List.getD_cons_zero]); (exact ⟨by rw [he], rfl⟩))
end Go.Proofs.Ytkdbedbefojieaa

namespace Go.Proofs.Ytkdbedbefojieaa
set_option linter.unusedVariables false
set_option linter.unusedSimpArgs false
set_option maxHeartbeats 8000000
open Go.RowKit
set_option maxRecDepth 100000
def pNode (n : Int) : Nat → Member → Bool := fun _ x => x.node != n
def pMem (c : Config) : Nat → Member → Bool := fun i m => decide (0 ≤ m.node) && decide (m.node < 5) && decide (1 ≤ m.since) && decide (m.since ≤ c.epoch) && allG (pNode m.node) 0 (c.members.take i)
def mayCfg (c : Config) : Bool := decide (1 ≤ c.epoch) && decide (c.members.length ≤ 5) && allG (pMem c) 0 c.members
theorem mc2_ac (i : Nat) (x m : Member) : AC Try.prog 92 [I i, .ag (eM x), .bp 0 0 0] [.c tM (eM m)] (fun v bs => v = B (pNode m.node i x) ∧ bs = [.c tM (eM m)]) := by
  refine AC.N Try.func92 Try.ntmps92 ?_
  intro X
  simp only [nx, Nat.reduceAdd, Nat.reduceSub, BEq.rfl]
  repeat' (first
    | ((first
    | ((with_reducible apply AP.k_any); first
             | refine AP.S ?_
      )
    
    )
      <;> (try simp only [nx, Nat.reduceAdd, Nat.reduceSub, BEq.rfl]))
    | ((with_reducible apply AP.k_nil); first
        | (refine AP.nil (hQ' _ ?_); clear hQ' Q')
        | refine AP.nil ?_)
    | ((with_reducible apply CP.k_reg); refine cp_regG fun Q' hQ' => ?_)
      | (with_reducible apply CP.k_reg1; refine cp_region ?_)
      | ((with_reducible apply CP.k_cond); first | refine cp_condT rfl ?_ | refine cp_condF rfl ?_ | refine cp_cond rfl (fun hc => ?_) (fun hc => ?_))
      | refine CP.go ?_
      | (simp only [List.append_eq, List.cons_append, List.nil_append]))
  (refine RetQ.B [(0, 0)] ?_; (try dsimp only [resV, List.getD_cons_succ, List.getD_cons_zero]); (exact ⟨rfl, rfl⟩))
theorem mc1_ac (c : Config) (i : Nat) (m : Member) (hi : i ≤ c.members.length) (hl : c.members.length ≤ 100000000) : AC Try.prog 91 [I i, .ag (eM m), .bp 0 0 0] [.c 24 (eC none c)] (fun v bs => v = B (pMem c i m) ∧ bs = [.c 24 (eC none c)]) := by
  have h := all2_ac 92 m (pNode m.node) (c.members.take i) (by simp; omega) (fun k hk => mc2_ac k _ m)
  refine AC.N Try.func91 Try.ntmps91 ?_
  intro X
  simp only [nx, Nat.reduceAdd, Nat.reduceSub, BEq.rfl]
  repeat' (first
    | ((first
    | ((with_reducible apply AP.k_any); first
             | refine AP.S ?_
             | (refine AP.Y ?_; dsimp only) | refine AP.G (fun hg => ?_) (fun hg => ?_)
      )
    | ((with_reducible apply AP.k_any); refine AP.CB [(1, 1)] 0 (h) ?_)
    )
      <;> (try simp only [nx, Nat.reduceAdd, Nat.reduceSub, BEq.rfl]))
    | ((with_reducible apply AP.k_nil); first
        | (refine AP.nil (hQ' _ ?_); clear hQ' Q')
        | refine AP.nil ?_)
    | ((with_reducible apply CP.k_reg); refine cp_regG fun Q' hQ' => ?_)
      | (with_reducible apply CP.k_reg1; refine cp_region ?_)
      | ((with_reducible apply CP.k_cond); first | refine cp_condT rfl ?_ | refine cp_condF rfl ?_ | refine cp_cond rfl (fun hc => ?_) (fun hc => ?_))
      | refine CP.go ?_
      | (simp only [List.append_eq, List.cons_append, List.nil_append]))
  all_goals (refine RetQ.B [(0, 0)] ?_; (try dsimp only [resV, List.getD_cons_succ, List.getD_cons_zero]); ((refine ⟨?_, rfl⟩; simp at *; simp [pMem, *]; try omega)))
theorem mayConfig_ac (c : Config) (hl : c.members.length ≤ 100000000) : AC Try.prog 54 [.ag (eC none c)] [] (fun v bs => v = B (mayCfg c) ∧ bs = []) := by
  have h := all1_ac 91 c (pMem c) c.members hl (fun k hk => mc1_ac c k _ (by omega) hl)
  refine AC.N Try.func54 Try.ntmps54 ?_
  intro X
  simp only [nx, Nat.reduceAdd, Nat.reduceSub, BEq.rfl]
  repeat' (first
    | ((first
    | ((with_reducible apply AP.k_any); first
             | refine AP.S ?_
             | (refine AP.Y ?_; dsimp only) | refine AP.G (fun hg => ?_) (fun hg => ?_)
      )
    | ((with_reducible apply AP.k_any); refine AP.CB [(0, 1)] 0 (h) ?_)
    )
      <;> (try simp only [nx, Nat.reduceAdd, Nat.reduceSub, BEq.rfl]))
    | ((with_reducible apply AP.k_nil); first
        | (refine AP.nil (hQ' _ ?_); clear hQ' Q')
        | refine AP.nil ?_)
    | ((with_reducible apply CP.k_reg); refine cp_regG fun Q' hQ' => ?_)
      | (with_reducible apply CP.k_reg1; refine cp_region ?_)
      | ((with_reducible apply CP.k_cond); first | refine cp_condT rfl ?_ | refine cp_condF rfl ?_ | refine cp_cond rfl (fun hc => ?_) (fun hc => ?_))
      | refine CP.go ?_
      | (simp only [List.append_eq, List.cons_append, List.nil_append]))
  all_goals (refine RetQ.B [] ?_; (try dsimp only [resV, List.getD_cons_succ, List.getD_cons_zero]); ((refine ⟨?_, rfl⟩; simp at *; simp [mayCfg, *]; try omega)))
/-- what an entry, a configuration writes -/
def putE (st : Bool × List UInt8) (e : Entry) : Bool × List UInt8 := addS (addS (addS (addS (addS (addS st (intS e.pos)) (intS e.stamp)) (intS e.client)) (intS e.id)) (putS e.body.length 4)) e.body
def putR (st : Bool × List UInt8) (e : Entry) : Bool × List UInt8 := addS (addS (addS (addS (addS st (intS e.stamp)) (intS e.client)) (intS e.id)) (putS e.body.length 4)) e.body
def putM (st : Bool × List UInt8) (m : Member) : Bool × List UInt8 := addS (addS (addS st (intS m.node)) (intS m.since)) (flagS m.whole)
def putC (st : Bool × List UInt8) (c : Config) : Bool × List UInt8 := c.members.foldl putM (addS (addS st (intS c.epoch)) (intS c.members.length))
theorem putRest_ac (st : Bool × List UInt8) (e : Entry) (hst : st.2.length ≤ 65536) (hb : e.body.length ≤ 100000000) :
    AC Try.prog 88 [.bp 0 0 0, .ag (eE none e)] [wB st] (fun v bs => v = .bp 0 0 0 ∧ bs = [wB (putR st e)]) := by
  have h1 := addS_len (st := st) (b := intS e.stamp) hst
  have h2 := addS_len (b := intS e.client) h1
  have h3 := addS_len (b := intS e.id) h2
  refine AC.N Try.func88 Try.ntmps88 ?_
  intro X
  simp only [nx, Nat.reduceAdd, Nat.reduceSub, BEq.rfl]
  repeat' (first
    | ((first
    | ((with_reducible apply AP.k_any); first
             | refine AP.S ?_
      )
    
    )
      <;> (try simp only [nx, Nat.reduceAdd, Nat.reduceSub, BEq.rfl]))
    | ((with_reducible apply AP.k_nil); first
        | (refine AP.nil (hQ' _ ?_); clear hQ' Q')
        | refine AP.nil ?_)
    | ((with_reducible apply CP.k_reg); refine cp_regG fun Q' hQ' => ?_)
      | (with_reducible apply CP.k_reg1; refine cp_region ?_)
      | ((with_reducible apply CP.k_cond); first | refine cp_condT rfl ?_ | refine cp_condF rfl ?_ | refine cp_cond rfl (fun hc => ?_) (fun hc => ?_))
      | refine CP.go ?_
      | (simp only [List.append_eq, List.cons_append, List.nil_append]))
  refine cp_drawI (fun zs zb => ⟨setT zs.t [(5, cond (zb.getD 0 false) (.bp 0 0 0) (.tu [])), (6, cond (zb.getD 1 false) (.bp 2 1 1) (.tu [])), (7, cond (zb.getD 2 false) (I e.stamp) (.tu [])), (8, cond (zb.getD 3 false) (.bp 0 0 0) (.tu [])), (9, cond (zb.getD 4 false) (.bp 2 1 2) (.tu [])), (10, cond (zb.getD 5 false) (I e.client) (.tu [])), (11, cond (zb.getD 6 false) (.bp 0 0 0) (.tu [])), (12, cond (zb.getD 7 false) (.bp 2 1 3) (.tu [])), (13, cond (zb.getD 8 false) (I e.id) (.tu [])), (14, cond (zb.getD 9 false) (.bp 0 0 0) (.tu [])), (15, cond (zb.getD 10 false) (.bp 2 1 4) (.tu [])), (16, cond (zb.getD 11 false) (bs none e.body) (.tu [])), (17, cond (zb.getD 12 false) (.bp 0 0 0) (.tu [])), (4, cond (zb.getD 13 false) (.bp 0 0 0) (.sc (.pointer none)))], ((zs.b.set 0 (cond (zb.getD 12 false) (⟨0, .c tW [B true, B (putR st e).1, .hd 1 5]⟩) (cond (zb.getD 9 false) (⟨0, .c tW [B true, B (addS (addS (addS st (intS e.stamp)) (intS e.client)) (intS e.id)).1, .hd 1 4]⟩) (cond (zb.getD 6 false) (⟨0, .c tW [B true, B (addS (addS st (intS e.stamp)) (intS e.client)).1, .hd 1 3]⟩) (cond (zb.getD 3 false) (⟨0, .c tW [B true, B (addS st (intS e.stamp)).1, .hd 1 2]⟩) (zs.b.getD 0 ⟨0, .x⟩)))))).set 1 (cond (zb.getD 12 false) (⟨5, .r tU 1 ((putR st e).2.map eB)⟩) (cond (zb.getD 9 false) (⟨4, .r tU 1 ((addS (addS (addS st (intS e.stamp)) (intS e.client)) (intS e.id)).2.map eB)⟩) (cond (zb.getD 6 false) (⟨3, .r tU 1 ((addS (addS st (intS e.stamp)) (intS e.client)).2.map eB)⟩) (cond (zb.getD 3 false) (⟨2, .r tU 1 ((addS st (intS e.stamp)).2.map eB)⟩) (zs.b.getD 1 ⟨0, .x⟩))))))⟩) (by kernel_rfl) (by kernel_rfl) (by kernel_rfl) ?_ ?_
  rotate_left
  simp only [cond_true, cond_false, setT, List.set_cons_succ, List.set_cons_zero, List.getD_cons_succ, List.getD_cons_zero, List.set_cons_succ, List.length_cons, List.length_nil, List.replicate_succ, List.replicate_zero, Nat.reduceAdd]
  rotate_left
  · intro b hb' hcl
    obtain ⟨l0, b0, rfl, hb0⟩ := len_cons hb'
    obtain ⟨l1, b1, rfl, hb1⟩ := len_cons hb0
    obtain ⟨l2, b2, rfl, hb2⟩ := len_cons hb1
    obtain ⟨l3, b3, rfl, hb3⟩ := len_cons hb2
    obtain ⟨l4, b4, rfl, hb4⟩ := len_cons hb3
    obtain ⟨l5, b5, rfl, hb5⟩ := len_cons hb4
    obtain ⟨l6, b6, rfl, hb6⟩ := len_cons hb5
    obtain ⟨l7, b7, rfl, hb7⟩ := len_cons hb6
    obtain ⟨l8, b8, rfl, hb8⟩ := len_cons hb7
    obtain ⟨l9, b9, rfl, hb9⟩ := len_cons hb8
    obtain ⟨l10, b10, rfl, hb10⟩ := len_cons hb9
    obtain ⟨l11, b11, rfl, hb11⟩ := len_cons hb10
    obtain ⟨l12, b12, rfl, hb12⟩ := len_cons hb11
    obtain ⟨l13, b13, rfl, hb13⟩ := len_cons hb12
    obtain rfl := List.length_eq_zero_iff.1 hb13
    clear hb' hb0 hb1 hb2 hb3 hb4 hb5 hb6 hb7 hb8 hb9 hb10 hb11 hb12 hb13
    · simp only [closedB, depsOk, Region.binds, List.toList_toArray, List.all_cons, List.all_nil, List.getD_cons_succ, List.getD_cons_zero, Bool.not_true, Bool.not_false, Bool.true_or, Bool.false_or, Bool.and_true, Bool.true_and, Bool.or_true, Bool.and_false, Bool.or_false, Bool.false_and, Bool.and_eq_true, Bool.or_eq_true, Bool.not_eq_true'] at hcl
      simp only [StepsP]
      refine ⟨?_, ?_, ?_, ?_, ?_, ?_, ?_, ?_, ?_, ?_, ?_, ?_, ?_, ?_, trivial⟩
      · intro h1 h2
        simp [depsOk, Region.binds] at h1 h2
        subst h1
        (repeat (obtain ⟨rfl, h2⟩ := h2))
        (try subst h2)
        clear hcl
        simp only [cond_true, cond_false, setT, List.set_cons_succ, List.set_cons_zero, List.getD_cons_succ, List.getD_cons_zero, List.set_cons_succ]
        (with_reducible apply AP.k_any); first | (refine AP.sm false rfl ?_ ?_; focus ((repeat' (with_reducible apply And.intro)) <;> (first | exact True.intro | exact rfl | omega | (simp; omega) | (simp; done) | assumption | exact .inl rfl | (refine .inr ?_; simp; try omega)))) | fail "no step"
        all_goals (try simp only [nx, Nat.reduceAdd, Nat.reduceSub, BEq.rfl])
        refine AP.nil ?_
        exact ⟨rfl, rfl⟩
      · intro h1 h2
        simp [depsOk, Region.binds] at h1 h2
        subst h1
        (repeat (obtain ⟨rfl, h2⟩ := h2))
        (try subst h2)
        clear hcl
        simp only [cond_true, cond_false, setT, List.set_cons_succ, List.set_cons_zero, List.getD_cons_succ, List.getD_cons_zero, List.set_cons_succ]
        (with_reducible apply AP.k_any); first | (refine AP.sm false rfl ?_ ?_; focus ((repeat' (with_reducible apply And.intro)) <;> (first | exact True.intro | exact rfl | omega | (simp; omega) | (simp; done) | assumption | exact .inl rfl | (refine .inr ?_; simp; try omega)))) | fail "no step"
        all_goals (try simp only [nx, Nat.reduceAdd, Nat.reduceSub, BEq.rfl])
        refine AP.nil ?_
        exact ⟨rfl, rfl⟩
      · intro h1 h2
        simp [depsOk, Region.binds] at h1 h2
        subst h1
        (repeat (obtain ⟨rfl, h2⟩ := h2))
        (try subst h2)
        (first | (obtain rfl : l3 = false := by grind only) | skip)
        (first | (obtain rfl : l6 = false := by grind only) | skip)
        (first | (obtain rfl : l9 = false := by grind only) | skip)
        (first | (obtain rfl : l12 = false := by grind only) | skip)
        clear hcl
        simp only [cond_true, cond_false, setT, List.set_cons_succ, List.set_cons_zero, List.getD_cons_succ, List.getD_cons_zero, List.set_cons_succ]
        (with_reducible apply AP.k_any); first | (refine AP.sm false rfl ?_ ?_; focus ((repeat' (with_reducible apply And.intro)) <;> (first | exact True.intro | exact rfl | omega | (simp; omega) | (simp; done) | assumption | exact .inl rfl | (refine .inr ?_; simp; try omega)))) | (refine AP.el rfl ?_ (by (first | (refine ⟨?_, ?_⟩; assumption; rfl) | exact ⟨mapAt (by (first | omega | (simp; omega) | (simp; done) | assumption)), rfl⟩ | exact ⟨rfl, rfl⟩)) ?_; focus ((repeat' (with_reducible apply And.intro)) <;> (first | exact True.intro | exact rfl | omega | (simp; omega) | (simp; done) | assumption | exact .inl rfl | (refine .inr ?_; simp; try omega)))) | fail "no step"
        all_goals (try simp only [nx, Nat.reduceAdd, Nat.reduceSub, BEq.rfl])
        refine AP.nil ?_
        exact ⟨rfl, rfl⟩
      · intro h1 h2
        simp [depsOk, Region.binds] at h1 h2
        subst h1
        (repeat (obtain ⟨rfl, h2⟩ := h2))
        (try subst h2)
        (first | (obtain rfl : l6 = false := by grind only) | skip)
        (first | (obtain rfl : l9 = false := by grind only) | skip)
        (first | (obtain rfl : l12 = false := by grind only) | skip)
        clear hcl
        simp only [cond_true, cond_false, setT, List.set_cons_succ, List.set_cons_zero, List.getD_cons_succ, List.getD_cons_zero, List.set_cons_succ]
        (first
        | ((with_reducible apply AP.k_any); refine AP.CB [(0, 0)] 0 (wint_ac st e.stamp hst) ?_)
        | ((with_reducible apply AP.k_any); refine AP.CB [(0, 0)] 0 (wint_ac _ e.client h1) ?_)
        | ((with_reducible apply AP.k_any); refine AP.CB [(0, 0)] 0 (wint_ac _ e.id h2) ?_)
        | ((with_reducible apply AP.k_any); refine AP.CB [(0, 0)] 0 (wbytes_ac _ e.body h3 hb) ?_)
        | fail "no arm")
        all_goals (try simp only [nx, Nat.reduceAdd, Nat.reduceSub, BEq.rfl])
        refine AP.nil ?_
        exact ⟨rfl, rfl⟩
      · intro h1 h2
        simp [depsOk, Region.binds] at h1 h2
        subst h1
        (repeat (obtain ⟨rfl, h2⟩ := h2))
        (try subst h2)
        clear hcl
        simp only [cond_true, cond_false, setT, List.set_cons_succ, List.set_cons_zero, List.getD_cons_succ, List.getD_cons_zero, List.set_cons_succ]
        (with_reducible apply AP.k_any); first | (refine AP.sm false rfl ?_ ?_; focus ((repeat' (with_reducible apply And.intro)) <;> (first | exact True.intro | exact rfl | omega | (simp; omega) | (simp; done) | assumption | exact .inl rfl | (refine .inr ?_; simp; try omega)))) | fail "no step"
        all_goals (try simp only [nx, Nat.reduceAdd, Nat.reduceSub, BEq.rfl])
        refine AP.nil ?_
        exact ⟨rfl, rfl⟩
      · intro h1 h2
        simp [depsOk, Region.binds] at h1 h2
        subst h1
        (repeat (obtain ⟨rfl, h2⟩ := h2))
        (try subst h2)
        (first | (obtain rfl : l6 = false := by grind only) | skip)
        (first | (obtain rfl : l9 = false := by grind only) | skip)
        (first | (obtain rfl : l12 = false := by grind only) | skip)
        clear hcl
        simp only [cond_true, cond_false, setT, List.set_cons_succ, List.set_cons_zero, List.getD_cons_succ, List.getD_cons_zero, List.set_cons_succ]
        (with_reducible apply AP.k_any); first | (refine AP.sm false rfl ?_ ?_; focus ((repeat' (with_reducible apply And.intro)) <;> (first | exact True.intro | exact rfl | omega | (simp; omega) | (simp; done) | assumption | exact .inl rfl | (refine .inr ?_; simp; try omega)))) | (refine AP.el rfl ?_ (by (first | (refine ⟨?_, ?_⟩; assumption; rfl) | exact ⟨mapAt (by (first | omega | (simp; omega) | (simp; done) | assumption)), rfl⟩ | exact ⟨rfl, rfl⟩)) ?_; focus ((repeat' (with_reducible apply And.intro)) <;> (first | exact True.intro | exact rfl | omega | (simp; omega) | (simp; done) | assumption | exact .inl rfl | (refine .inr ?_; simp; try omega)))) | fail "no step"
        all_goals (try simp only [nx, Nat.reduceAdd, Nat.reduceSub, BEq.rfl])
        refine AP.nil ?_
        exact ⟨rfl, rfl⟩
      · intro h1 h2
        simp [depsOk, Region.binds] at h1 h2
        subst h1
        (repeat (obtain ⟨rfl, h2⟩ := h2))
        (try subst h2)
        (first | (obtain rfl : l3 = true := by grind only) | skip)
        (first | (obtain rfl : l9 = false := by grind only) | skip)
        (first | (obtain rfl : l12 = false := by grind only) | skip)
        clear hcl
        simp only [cond_true, cond_false, setT, List.set_cons_succ, List.set_cons_zero, List.getD_cons_succ, List.getD_cons_zero, List.set_cons_succ]
        (first
        | ((with_reducible apply AP.k_any); refine AP.CB [(0, 0)] 0 (wint_ac st e.stamp hst) ?_)
        | ((with_reducible apply AP.k_any); refine AP.CB [(0, 0)] 0 (wint_ac _ e.client h1) ?_)
        | ((with_reducible apply AP.k_any); refine AP.CB [(0, 0)] 0 (wint_ac _ e.id h2) ?_)
        | ((with_reducible apply AP.k_any); refine AP.CB [(0, 0)] 0 (wbytes_ac _ e.body h3 hb) ?_)
        | fail "no arm")
        all_goals (try simp only [nx, Nat.reduceAdd, Nat.reduceSub, BEq.rfl])
        refine AP.nil ?_
        exact ⟨rfl, rfl⟩
      · intro h1 h2
        simp [depsOk, Region.binds] at h1 h2
        subst h1
        (repeat (obtain ⟨rfl, h2⟩ := h2))
        (try subst h2)
        clear hcl
        simp only [cond_true, cond_false, setT, List.set_cons_succ, List.set_cons_zero, List.getD_cons_succ, List.getD_cons_zero, List.set_cons_succ]
        (with_reducible apply AP.k_any); first | (refine AP.sm false rfl ?_ ?_; focus ((repeat' (with_reducible apply And.intro)) <;> (first | exact True.intro | exact rfl | omega | (simp; omega) | (simp; done) | assumption | exact .inl rfl | (refine .inr ?_; simp; try omega)))) | fail "no step"
        all_goals (try simp only [nx, Nat.reduceAdd, Nat.reduceSub, BEq.rfl])
        refine AP.nil ?_
        exact ⟨rfl, rfl⟩
      · intro h1 h2
        simp [depsOk, Region.binds] at h1 h2
        subst h1
        (repeat (obtain ⟨rfl, h2⟩ := h2))
        (try subst h2)
        (first | (obtain rfl : l9 = false := by grind only) | skip)
        (first | (obtain rfl : l12 = false := by grind only) | skip)
        clear hcl
        simp only [cond_true, cond_false, setT, List.set_cons_succ, List.set_cons_zero, List.getD_cons_succ, List.getD_cons_zero, List.set_cons_succ]
        (with_reducible apply AP.k_any); first | (refine AP.sm false rfl ?_ ?_; focus ((repeat' (with_reducible apply And.intro)) <;> (first | exact True.intro | exact rfl | omega | (simp; omega) | (simp; done) | assumption | exact .inl rfl | (refine .inr ?_; simp; try omega)))) | (refine AP.el rfl ?_ (by (first | (refine ⟨?_, ?_⟩; assumption; rfl) | exact ⟨mapAt (by (first | omega | (simp; omega) | (simp; done) | assumption)), rfl⟩ | exact ⟨rfl, rfl⟩)) ?_; focus ((repeat' (with_reducible apply And.intro)) <;> (first | exact True.intro | exact rfl | omega | (simp; omega) | (simp; done) | assumption | exact .inl rfl | (refine .inr ?_; simp; try omega)))) | fail "no step"
        all_goals (try simp only [nx, Nat.reduceAdd, Nat.reduceSub, BEq.rfl])
        refine AP.nil ?_
        exact ⟨rfl, rfl⟩
      · intro h1 h2
        simp [depsOk, Region.binds] at h1 h2
        subst h1
        (repeat (obtain ⟨rfl, h2⟩ := h2))
        (try subst h2)
        (first | (obtain rfl : l3 = true := by grind only) | skip)
        (first | (obtain rfl : l6 = true := by grind only) | skip)
        (first | (obtain rfl : l12 = false := by grind only) | skip)
        clear hcl
        simp only [cond_true, cond_false, setT, List.set_cons_succ, List.set_cons_zero, List.getD_cons_succ, List.getD_cons_zero, List.set_cons_succ]
        (first
        | ((with_reducible apply AP.k_any); refine AP.CB [(0, 0)] 0 (wint_ac st e.stamp hst) ?_)
        | ((with_reducible apply AP.k_any); refine AP.CB [(0, 0)] 0 (wint_ac _ e.client h1) ?_)
        | ((with_reducible apply AP.k_any); refine AP.CB [(0, 0)] 0 (wint_ac _ e.id h2) ?_)
        | ((with_reducible apply AP.k_any); refine AP.CB [(0, 0)] 0 (wbytes_ac _ e.body h3 hb) ?_)
        | fail "no arm")
        all_goals (try simp only [nx, Nat.reduceAdd, Nat.reduceSub, BEq.rfl])
        refine AP.nil ?_
        exact ⟨rfl, rfl⟩
      · intro h1 h2
        simp [depsOk, Region.binds] at h1 h2
        subst h1
        (repeat (obtain ⟨rfl, h2⟩ := h2))
        (try subst h2)
        clear hcl
        simp only [cond_true, cond_false, setT, List.set_cons_succ, List.set_cons_zero, List.getD_cons_succ, List.getD_cons_zero, List.set_cons_succ]
        (with_reducible apply AP.k_any); first | (refine AP.sm false rfl ?_ ?_; focus ((repeat' (with_reducible apply And.intro)) <;> (first | exact True.intro | exact rfl | omega | (simp; omega) | (simp; done) | assumption | exact .inl rfl | (refine .inr ?_; simp; try omega)))) | fail "no step"
        all_goals (try simp only [nx, Nat.reduceAdd, Nat.reduceSub, BEq.rfl])
        refine AP.nil ?_
        exact ⟨rfl, rfl⟩
      · intro h1 h2
        simp [depsOk, Region.binds] at h1 h2
        subst h1
        (repeat (obtain ⟨rfl, h2⟩ := h2))
        (try subst h2)
        (first | (obtain rfl : l12 = false := by grind only) | skip)
        clear hcl
        simp only [cond_true, cond_false, setT, List.set_cons_succ, List.set_cons_zero, List.getD_cons_succ, List.getD_cons_zero, List.set_cons_succ]
        (with_reducible apply AP.k_any); first | (refine AP.sm false rfl ?_ ?_; focus ((repeat' (with_reducible apply And.intro)) <;> (first | exact True.intro | exact rfl | omega | (simp; omega) | (simp; done) | assumption | exact .inl rfl | (refine .inr ?_; simp; try omega)))) | (refine AP.el rfl ?_ (by (first | (refine ⟨?_, ?_⟩; assumption; rfl) | exact ⟨mapAt (by (first | omega | (simp; omega) | (simp; done) | assumption)), rfl⟩ | exact ⟨rfl, rfl⟩)) ?_; focus ((repeat' (with_reducible apply And.intro)) <;> (first | exact True.intro | exact rfl | omega | (simp; omega) | (simp; done) | assumption | exact .inl rfl | (refine .inr ?_; simp; try omega)))) | fail "no step"
        all_goals (try simp only [nx, Nat.reduceAdd, Nat.reduceSub, BEq.rfl])
        refine AP.nil ?_
        exact ⟨rfl, rfl⟩
      · intro h1 h2
        simp [depsOk, Region.binds] at h1 h2
        subst h1
        (repeat (obtain ⟨rfl, h2⟩ := h2))
        (try subst h2)
        (first | (obtain rfl : l3 = true := by grind only) | skip)
        (first | (obtain rfl : l6 = true := by grind only) | skip)
        (first | (obtain rfl : l9 = true := by grind only) | skip)
        clear hcl
        simp only [cond_true, cond_false, setT, List.set_cons_succ, List.set_cons_zero, List.getD_cons_succ, List.getD_cons_zero, List.set_cons_succ]
        (first
        | ((with_reducible apply AP.k_any); refine AP.CB [(0, 0)] 0 (wint_ac st e.stamp hst) ?_)
        | ((with_reducible apply AP.k_any); refine AP.CB [(0, 0)] 0 (wint_ac _ e.client h1) ?_)
        | ((with_reducible apply AP.k_any); refine AP.CB [(0, 0)] 0 (wint_ac _ e.id h2) ?_)
        | ((with_reducible apply AP.k_any); refine AP.CB [(0, 0)] 0 (wbytes_ac _ e.body h3 hb) ?_)
        | fail "no arm")
        all_goals (try simp only [nx, Nat.reduceAdd, Nat.reduceSub, BEq.rfl])
        refine AP.nil ?_
        exact ⟨rfl, rfl⟩
      · intro h1 h2
        simp [depsOk, Region.binds] at h1 h2
        subst h1
        (repeat (obtain ⟨rfl, h2⟩ := h2))
        (try subst h2)
        clear hcl
        simp only [cond_true, cond_false, setT, List.set_cons_succ, List.set_cons_zero, List.getD_cons_succ, List.getD_cons_zero, List.set_cons_succ]
        (with_reducible apply AP.k_any); first | (refine AP.sm false rfl ?_ ?_; focus ((repeat' (with_reducible apply And.intro)) <;> (first | exact True.intro | exact rfl | omega | (simp; omega) | (simp; done) | assumption | exact .inl rfl | (refine .inr ?_; simp; try omega)))) | fail "no step"
        all_goals (try simp only [nx, Nat.reduceAdd, Nat.reduceSub, BEq.rfl])
        refine AP.nil ?_
        exact ⟨rfl, rfl⟩
  repeat' (first
    | ((first
    | ((with_reducible apply AP.k_any); first
             | refine AP.S ?_
      )
    
    )
      <;> (try simp only [nx, Nat.reduceAdd, Nat.reduceSub, BEq.rfl]))
    | ((with_reducible apply AP.k_nil); first
        | (refine AP.nil (hQ' _ ?_); clear hQ' Q')
        | refine AP.nil ?_)
    | ((with_reducible apply CP.k_reg); refine cp_regG fun Q' hQ' => ?_)
      | (with_reducible apply CP.k_reg1; refine cp_region ?_)
      | ((with_reducible apply CP.k_cond); first | refine cp_condT rfl ?_ | refine cp_condF rfl ?_ | refine cp_cond rfl (fun hc => ?_) (fun hc => ?_))
      | refine CP.go ?_
      | (simp only [List.append_eq, List.cons_append, List.nil_append]))
  (exact RetQ.A [(0, 0)] (by exact ⟨rfl, rfl⟩))
theorem putEntry_ac (st : Bool × List UInt8) (e : Entry) (hst : st.2.length ≤ 65536) (hb : e.body.length ≤ 100000000) :
    AC Try.prog 51 [.bp 0 0 0, .ag (eE none e)] [wB st] (fun v bs => v = .bp 0 0 0 ∧ bs = [wB (putE st e)]) := by
  have h1 := addS_len (st := st) (b := intS e.pos) hst
  refine AC.N Try.func51 Try.ntmps51 ?_
  intro X
  simp only [nx, Nat.reduceAdd, Nat.reduceSub, BEq.rfl]
  repeat' (first
    | ((first
    | ((with_reducible apply AP.k_any); first
             | refine AP.S ?_
      )
    
    )
      <;> (try simp only [nx, Nat.reduceAdd, Nat.reduceSub, BEq.rfl]))
    | ((with_reducible apply AP.k_nil); first
        | (refine AP.nil (hQ' _ ?_); clear hQ' Q')
        | refine AP.nil ?_)
    | ((with_reducible apply CP.k_reg); refine cp_regG fun Q' hQ' => ?_)
      | (with_reducible apply CP.k_reg1; refine cp_region ?_)
      | ((with_reducible apply CP.k_cond); first | refine cp_condT rfl ?_ | refine cp_condF rfl ?_ | refine cp_cond rfl (fun hc => ?_) (fun hc => ?_))
      | refine CP.go ?_
      | (simp only [List.append_eq, List.cons_append, List.nil_append]))
  refine cp_drawI (fun zs zb => ⟨setT zs.t [(5, cond (zb.getD 0 false) (.bp 0 0 0) (.tu [])), (6, cond (zb.getD 1 false) (.bp 2 1 0) (.tu [])), (7, cond (zb.getD 2 false) (I e.pos) (.tu [])), (8, cond (zb.getD 3 false) (.bp 0 0 0) (.tu [])), (9, cond (zb.getD 4 false) (.ag (eE none e)) (.tu [])), (10, cond (zb.getD 5 false) (.bp 0 0 0) (.tu [])), (4, cond (zb.getD 6 false) (.bp 0 0 0) (.sc (.pointer none)))], ((zs.b.set 0 (cond (zb.getD 5 false) (⟨0, .c tW [B true, B (putE st e).1, .hd 1 3]⟩) (cond (zb.getD 3 false) (⟨0, .c tW [B true, B (addS st (intS e.pos)).1, .hd 1 2]⟩) (zs.b.getD 0 ⟨0, .x⟩)))).set 1 (cond (zb.getD 5 false) (⟨3, .r tU 1 ((putE st e).2.map eB)⟩) (cond (zb.getD 3 false) (⟨2, .r tU 1 ((addS st (intS e.pos)).2.map eB)⟩) (zs.b.getD 1 ⟨0, .x⟩))))⟩) (by kernel_rfl) (by kernel_rfl) (by kernel_rfl) ?_ ?_
  rotate_left
  simp only [cond_true, cond_false, setT, List.set_cons_succ, List.set_cons_zero, List.getD_cons_succ, List.getD_cons_zero, List.set_cons_succ, List.length_cons, List.length_nil, List.replicate_succ, List.replicate_zero, Nat.reduceAdd]
  rotate_left
  · intro b hb' hcl
    obtain ⟨l0, b0, rfl, hb0⟩ := len_cons hb'
    obtain ⟨l1, b1, rfl, hb1⟩ := len_cons hb0
    obtain ⟨l2, b2, rfl, hb2⟩ := len_cons hb1
    obtain ⟨l3, b3, rfl, hb3⟩ := len_cons hb2
    obtain ⟨l4, b4, rfl, hb4⟩ := len_cons hb3
    obtain ⟨l5, b5, rfl, hb5⟩ := len_cons hb4
    obtain ⟨l6, b6, rfl, hb6⟩ := len_cons hb5
    obtain rfl := List.length_eq_zero_iff.1 hb6
    clear hb' hb0 hb1 hb2 hb3 hb4 hb5 hb6
    · simp only [closedB, depsOk, Region.binds, List.toList_toArray, List.all_cons, List.all_nil, List.getD_cons_succ, List.getD_cons_zero, Bool.not_true, Bool.not_false, Bool.true_or, Bool.false_or, Bool.and_true, Bool.true_and, Bool.or_true, Bool.and_false, Bool.or_false, Bool.false_and, Bool.and_eq_true, Bool.or_eq_true, Bool.not_eq_true'] at hcl
      simp only [StepsP]
      refine ⟨?_, ?_, ?_, ?_, ?_, ?_, ?_, trivial⟩
      · intro h1 h2
        simp [depsOk, Region.binds] at h1 h2
        subst h1
        (repeat (obtain ⟨rfl, h2⟩ := h2))
        (try subst h2)
        clear hcl
        simp only [cond_true, cond_false, setT, List.set_cons_succ, List.set_cons_zero, List.getD_cons_succ, List.getD_cons_zero, List.set_cons_succ]
        (with_reducible apply AP.k_any); first | (refine AP.sm false rfl ?_ ?_; focus ((repeat' (with_reducible apply And.intro)) <;> (first | exact True.intro | exact rfl | omega | (simp; omega) | (simp; done) | assumption | exact .inl rfl | (refine .inr ?_; simp; try omega)))) | fail "no step"
        all_goals (try simp only [nx, Nat.reduceAdd, Nat.reduceSub, BEq.rfl])
        refine AP.nil ?_
        exact ⟨rfl, rfl⟩
      · intro h1 h2
        simp [depsOk, Region.binds] at h1 h2
        subst h1
        (repeat (obtain ⟨rfl, h2⟩ := h2))
        (try subst h2)
        clear hcl
        simp only [cond_true, cond_false, setT, List.set_cons_succ, List.set_cons_zero, List.getD_cons_succ, List.getD_cons_zero, List.set_cons_succ]
        (with_reducible apply AP.k_any); first | (refine AP.sm false rfl ?_ ?_; focus ((repeat' (with_reducible apply And.intro)) <;> (first | exact True.intro | exact rfl | omega | (simp; omega) | (simp; done) | assumption | exact .inl rfl | (refine .inr ?_; simp; try omega)))) | fail "no step"
        all_goals (try simp only [nx, Nat.reduceAdd, Nat.reduceSub, BEq.rfl])
        refine AP.nil ?_
        exact ⟨rfl, rfl⟩
      · intro h1 h2
        simp [depsOk, Region.binds] at h1 h2
        subst h1
        (repeat (obtain ⟨rfl, h2⟩ := h2))
        (try subst h2)
        (first | (obtain rfl : l3 = false := by grind only) | skip)
        (first | (obtain rfl : l5 = false := by grind only) | skip)
        clear hcl
        simp only [cond_true, cond_false, setT, List.set_cons_succ, List.set_cons_zero, List.getD_cons_succ, List.getD_cons_zero, List.set_cons_succ]
        (with_reducible apply AP.k_any); first | (refine AP.sm false rfl ?_ ?_; focus ((repeat' (with_reducible apply And.intro)) <;> (first | exact True.intro | exact rfl | omega | (simp; omega) | (simp; done) | assumption | exact .inl rfl | (refine .inr ?_; simp; try omega)))) | (refine AP.el rfl ?_ (by (first | (refine ⟨?_, ?_⟩; assumption; rfl) | exact ⟨mapAt (by (first | omega | (simp; omega) | (simp; done) | assumption)), rfl⟩ | exact ⟨rfl, rfl⟩)) ?_; focus ((repeat' (with_reducible apply And.intro)) <;> (first | exact True.intro | exact rfl | omega | (simp; omega) | (simp; done) | assumption | exact .inl rfl | (refine .inr ?_; simp; try omega)))) | fail "no step"
        all_goals (try simp only [nx, Nat.reduceAdd, Nat.reduceSub, BEq.rfl])
        refine AP.nil ?_
        exact ⟨rfl, rfl⟩
      · intro h1 h2
        simp [depsOk, Region.binds] at h1 h2
        subst h1
        (repeat (obtain ⟨rfl, h2⟩ := h2))
        (try subst h2)
        (first | (obtain rfl : l5 = false := by grind only) | skip)
        clear hcl
        simp only [cond_true, cond_false, setT, List.set_cons_succ, List.set_cons_zero, List.getD_cons_succ, List.getD_cons_zero, List.set_cons_succ]
        (first
        | ((with_reducible apply AP.k_any); refine AP.CB [(0, 0)] 0 (wint_ac st e.pos hst) ?_)
        | ((with_reducible apply AP.k_any); refine AP.CB [(0, 0)] 0 (putRest_ac _ e h1 hb) ?_)
        | fail "no arm")
        all_goals (try simp only [nx, Nat.reduceAdd, Nat.reduceSub, BEq.rfl])
        refine AP.nil ?_
        exact ⟨rfl, rfl⟩
      · intro h1 h2
        simp [depsOk, Region.binds] at h1 h2
        subst h1
        (repeat (obtain ⟨rfl, h2⟩ := h2))
        (try subst h2)
        (first | (obtain rfl : l5 = false := by grind only) | skip)
        clear hcl
        simp only [cond_true, cond_false, setT, List.set_cons_succ, List.set_cons_zero, List.getD_cons_succ, List.getD_cons_zero, List.set_cons_succ]
        (with_reducible apply AP.k_any); first | (refine AP.sm false rfl ?_ ?_; focus ((repeat' (with_reducible apply And.intro)) <;> (first | exact True.intro | exact rfl | omega | (simp; omega) | (simp; done) | assumption | exact .inl rfl | (refine .inr ?_; simp; try omega)))) | (refine AP.el rfl ?_ (by (first | (refine ⟨?_, ?_⟩; assumption; rfl) | exact ⟨mapAt (by (first | omega | (simp; omega) | (simp; done) | assumption)), rfl⟩ | exact ⟨rfl, rfl⟩)) ?_; focus ((repeat' (with_reducible apply And.intro)) <;> (first | exact True.intro | exact rfl | omega | (simp; omega) | (simp; done) | assumption | exact .inl rfl | (refine .inr ?_; simp; try omega)))) | fail "no step"
        all_goals (try simp only [nx, Nat.reduceAdd, Nat.reduceSub, BEq.rfl])
        refine AP.nil ?_
        exact ⟨rfl, rfl⟩
      · intro h1 h2
        simp [depsOk, Region.binds] at h1 h2
        subst h1
        (repeat (obtain ⟨rfl, h2⟩ := h2))
        (try subst h2)
        (first | (obtain rfl : l3 = true := by grind only) | skip)
        clear hcl
        simp only [cond_true, cond_false, setT, List.set_cons_succ, List.set_cons_zero, List.getD_cons_succ, List.getD_cons_zero, List.set_cons_succ]
        (first
        | ((with_reducible apply AP.k_any); refine AP.CB [(0, 0)] 0 (wint_ac st e.pos hst) ?_)
        | ((with_reducible apply AP.k_any); refine AP.CB [(0, 0)] 0 (putRest_ac _ e h1 hb) ?_)
        | fail "no arm")
        all_goals (try simp only [nx, Nat.reduceAdd, Nat.reduceSub, BEq.rfl])
        refine AP.nil ?_
        exact ⟨rfl, rfl⟩
      · intro h1 h2
        simp [depsOk, Region.binds] at h1 h2
        subst h1
        (repeat (obtain ⟨rfl, h2⟩ := h2))
        (try subst h2)
        clear hcl
        simp only [cond_true, cond_false, setT, List.set_cons_succ, List.set_cons_zero, List.getD_cons_succ, List.getD_cons_zero, List.set_cons_succ]
        (with_reducible apply AP.k_any); first | (refine AP.sm false rfl ?_ ?_; focus ((repeat' (with_reducible apply And.intro)) <;> (first | exact True.intro | exact rfl | omega | (simp; omega) | (simp; done) | assumption | exact .inl rfl | (refine .inr ?_; simp; try omega)))) | fail "no step"
        all_goals (try simp only [nx, Nat.reduceAdd, Nat.reduceSub, BEq.rfl])
        refine AP.nil ?_
        exact ⟨rfl, rfl⟩
  repeat' (first
    | ((first
    | ((with_reducible apply AP.k_any); first
             | refine AP.S ?_
      )
    
    )
      <;> (try simp only [nx, Nat.reduceAdd, Nat.reduceSub, BEq.rfl]))
    | ((with_reducible apply AP.k_nil); first
        | (refine AP.nil (hQ' _ ?_); clear hQ' Q')
        | refine AP.nil ?_)
    | ((with_reducible apply CP.k_reg); refine cp_regG fun Q' hQ' => ?_)
      | (with_reducible apply CP.k_reg1; refine cp_region ?_)
      | ((with_reducible apply CP.k_cond); first | refine cp_condT rfl ?_ | refine cp_condF rfl ?_ | refine cp_cond rfl (fun hc => ?_) (fun hc => ?_))
      | refine CP.go ?_
      | (simp only [List.append_eq, List.cons_append, List.nil_append]))
  (exact RetQ.A [(0, 0)] (by exact ⟨rfl, rfl⟩))
end Go.Proofs.Ytkdbedbefojieaa

namespace Go.Proofs.Ytkdbedbefojieaa
set_option linter.unusedVariables false
set_option linter.unusedSimpArgs false
open Go.RowKit
set_option maxRecDepth 100000
theorem addS_ok {a b : List UInt8} (h : a.length + b.length ≤ 65536) : addS (false, a) b = (false, a ++ b) := by
  simp only [addS]
  rw [if_neg (by simp; omega)]
theorem putM_ok {a : List UInt8} {m : Member} (h : a.length + 17 ≤ 65536) : putM (false, a) m = (false, a ++ memF m) := by
  unfold putM
  rw [addS_ok (by rw [intS_length]; omega), addS_ok (by rw [List.length_append, intS_length, intS_length]; omega), addS_ok (by rw [List.length_append, List.length_append, intS_length, intS_length, flagS_length]; omega)]
  simp [memF, numS]
theorem foldM_ok : ∀ {l : List Member} {a : List UInt8}, a.length + 17 * l.length ≤ 65536 → l.foldl putM (false, a) = (false, a ++ (l.map memF).flatten)
  | [], a, _ => by simp
  | m :: l, a, h => by
    rw [List.length_cons] at h
    rw [List.foldl_cons, putM_ok (by omega), foldM_ok (by rw [List.length_append, memF_length]; omega)]
    simp
theorem putC_ok {a : List UInt8} {c : Config} (h : a.length + 16 + 17 * c.members.length ≤ 65536) : putC (false, a) c = (false, a ++ configF c) := by
  unfold putC
  rw [addS_ok (by rw [intS_length]; omega), addS_ok (by rw [List.length_append, intS_length, intS_length]; omega), foldM_ok (by rw [List.length_append, List.length_append, intS_length, intS_length]; omega)]
  simp [configF, numS]
theorem putR_ok {a : List UInt8} {e : Entry} (h : a.length + 28 + e.body.length ≤ 65536) : putR (false, a) e = (false, a ++ restF e) := by
  unfold putR
  rw [addS_ok (by rw [intS_length]; omega), addS_ok (by simp only [List.length_append, intS_length]; omega), addS_ok (by simp only [List.length_append, intS_length]; omega), addS_ok (by simp only [List.length_append, intS_length, putS_length]; omega), addS_ok (by simp only [List.length_append, intS_length, putS_length]; omega)]
  simp [restF, numS]
theorem putE_ok {a : List UInt8} {e : Entry} (h : a.length + 36 + e.body.length ≤ 65536) : putE (false, a) e = (false, a ++ entryF e) := by
  have : putE (false, a) e = putR (addS (false, a) (intS e.pos)) e := rfl
  rw [this, addS_ok (by rw [intS_length]; omega), putR_ok (by rw [List.length_append, intS_length]; omega)]
  simp [entryF]
end Go.Proofs.Ytkdbedbefojieaa

namespace Go.Proofs.Ytkdbedbefojieaa
set_option linter.unusedVariables false
set_option linter.unusedSimpArgs false
def okRs (p : Int) (e : Entry) : Prop := e.pos = p ∧ I64 e.stamp ∧ I64 e.client ∧ I64 e.id ∧ e.body.length ≤ 65536
theorem cod_rest (p : Int) : Cod (restR p) restF (okRs p) :=
  (((cod_int.seq (fun _ _ => cod_int) fun _ => cod_int.stk).seq (fun _ _ => cod_int) fun _ => cod_int.stk).seq (fun _ _ => cod_bytes) fun _ => cod_bytes.stk).iso
    (fun x => ⟨p, x.1.1.1, x.1.1.2, x.1.2, x.2⟩) (fun e => (((e.stamp, e.client), e.id), e.body)) (fun st => rfl)
    (fun e _ => by simp [restF, numS, bytesF']) (fun e he => ⟨⟨⟨⟨he.2.1, he.2.2.1⟩, he.2.2.2.1⟩, he.2.2.2.2⟩, by cases e; simp [okRs] at he ⊢; exact he.1.symm⟩)
    fun x hx => ⟨⟨rfl, hx.1.1.1, hx.1.1.2, hx.1.2, hx.2⟩, rfl⟩
def okEn (e : Entry) : Prop := I64 e.pos ∧ I64 e.stamp ∧ I64 e.client ∧ I64 e.id ∧ e.body.length ≤ 65536
theorem cod_entry : Cod entryR entryF okEn :=
  (cod_int.seq (fun p _ => cod_rest p) fun p => (cod_rest p).stk).iso (fun x => x.2) (fun e => (e.pos, e))
    (fun st => rfl) (fun e _ => rfl) (fun e he => ⟨⟨he.1, rfl, he.2⟩, rfl⟩) fun x hx => ⟨by obtain ⟨h1, h2, h3⟩ := hx; exact ⟨by rw [h2]; exact h1, h3⟩, by obtain ⟨p, e⟩ := x; obtain ⟨h1, h2, h3⟩ := hx; dsimp only at h2 ⊢; rw [h2]⟩
def okMb (m : Member) : Prop := I64 m.node ∧ I64 m.since
theorem cod_mem : Cod memR memF okMb :=
  ((cod_int.seq (fun _ _ => cod_int) fun _ => cod_int.stk).seq (fun _ _ => cod_flag) fun _ => cod_flag.stk).iso
    (fun x => (⟨x.1.1, x.1.2, x.2⟩ : Member)) (fun m => ((m.node, m.since), m.whole)) (fun st => rfl) (fun m _ => by simp [memF, numS]) (fun m hm => ⟨⟨⟨hm.1, hm.2⟩, trivial⟩, rfl⟩) fun x hx => ⟨⟨hx.1.1, hx.1.2⟩, rfl⟩
theorem cod_nil {α : Type} (P : α → Prop) (g : α → List UInt8) : Cod (fun st : Rd => (([] : List α), st)) (fun l => (l.map g).flatten) (fun l => l.length = 0 ∧ ∀ x ∈ l, P x) where
  fwd l rest h := by obtain rfl := List.length_eq_zero_iff.1 h.1; rfl
  bwd st h := ⟨rfl, rfl, by simp⟩
  stk st h := h
theorem cod_mems : ∀ n, Cod (memsR n) (fun l => (l.map memF).flatten) (fun l => l.length = n ∧ ∀ m ∈ l, okMb m)
  | 0 => cod_nil okMb memF
  | n + 1 => (cod_mem.seq (fun _ _ => cod_mems n) fun _ => (cod_mems n).stk).iso (fun x => x.1 :: x.2) (fun l => (l.headD ⟨0, 0, false⟩, l.tail)) (fun st => rfl)
      (fun l hl => by cases l with | nil => simp at hl | cons m l => simp) (fun l hl => by cases l with
        | nil => simp at hl
        | cons m l => exact ⟨⟨hl.2 m (by simp), by simpa using hl.1, fun x hx => hl.2 x (by simp at hx; simp [hx])⟩, rfl⟩) fun x hx => ⟨⟨by simpa using hx.2.1, fun m hm => by
          rcases List.mem_cons.1 hm with rfl | hm
          · exact hx.1
          · exact hx.2.2 m hm⟩, rfl⟩
/-- entries from a position on -/
def okPos (p : Int) : Nat → List Entry → Prop
  | _, [] => True
  | i, e :: l => okRs (IntKind.i64.wrap (p + i)) e ∧ okPos p (i + 1) l
theorem count_fwd {m : Int} {n : Nat} {rest : List UInt8} (h1 : (n : Int) ≤ m) (h2 : n ≤ rest.length) (h3 : m ≤ 1000) : countR m (0, intS n ++ rest) = ((n : Int), (0, rest)) := by
  have hi : I64 (n : Int) := by unfold I64; omega
  have hl : leftR (0, intS n ++ rest) - 8 = (rest.length : Int) := by simp [leftR, intS_length]; omega
  have := takeS_fwd (z := (0 : Int)) (f := countG m (leftR (0, intS n ++ rest) - 8)) (n := 8) (b := intS n) (rest := rest) (intS_length _) (by
    simp only [countG, beN_intS, toI_u _ hi, hl]; simp; omega)
  rw [show ((8 : Nat) : Int) = 8 from rfl] at this
  rw [countR, this, countG, beN_intS, toI_u _ hi]
theorem count_bwd {m : Int} {st : Rd} (h : (countR m st).2.1 = 0) : st.2 = intS (countR m st).1 ++ (countR m st).2.2 ∧ 0 ≤ (countR m st).1 ∧ (countR m st).1 ≤ m := by
  unfold countR at h ⊢
  obtain ⟨h1, h2, h3, h4⟩ := takeS_zero (n := 8) (f := countG m (leftR st - 8)) (z := (0 : Int)) (st := st) h
  rw [show ((8 : Nat) : Int) = 8 from rfl] at h4
  rw [h4]
  have hl : (st.2.take 8).length = 8 := by simp; omega
  have hlt := beN_lt (st.2.take 8)
  rw [hl] at hlt
  simp only [countG, Bool.and_eq_true, decide_eq_true_eq] at h3 ⊢
  refine ⟨?_, h3.1.1, h3.1.2⟩
  rw [intS_toI _ (by simpa using hlt), putS_beN hl, List.take_append_drop]
theorem count_stk {m : Int} {st : Rd} (h : st.1 ≠ 0) : (countR m st).2.1 ≠ 0 := takeS_stk h
/-- a number of things, and these -/
def cntR {α : Type} (m : Int) (el : Nat → Rd → List α × Rd) (st : Rd) : List α × Rd := el (countR m st).1.toNat (countR m st).2
theorem cod_cnt {α : Type} {m : Int} {el : Nat → Rd → List α × Rd} {gl : List α → List UInt8} {ok : List α → Prop} (hm : m ≤ 1000) (h : ∀ n, Cod (el n) gl (fun l => l.length = n ∧ ok l)) (hl : ∀ l, ok l → l.length ≤ (gl l).length) :
    Cod (cntR m el) (fun l => intS l.length ++ gl l) (fun l => (l.length : Int) ≤ m ∧ ok l) where
  fwd l rest hk := by
    unfold cntR
    rw [List.append_assoc, count_fwd hk.1 (by rw [List.length_append]; have := hl l hk.2; omega) hm]
    dsimp only
    rw [Int.toNat_natCast]
    exact (h l.length).fwd l rest ⟨rfl, hk.2⟩
  bwd st h0 := by
    unfold cntR at h0 ⊢
    have hz : (countR m st).2.1 = 0 := by
      by_cases h1 : (countR m st).2.1 = 0
      · exact h1
      · exact absurd h0 ((h _).stk _ h1)
    obtain ⟨a1, a2, a3⟩ := count_bwd hz
    obtain ⟨b1, b2, b3⟩ := (h _).bwd _ h0
    have e : (((el (countR m st).1.toNat (countR m st).2).1.length : Nat) : Int) = (countR m st).1 := by rw [b2]; omega
    rw [e]
    exact ⟨by rw [List.append_assoc, ← b1]; exact a1, a3, b3⟩
  stk st h0 := (h _).stk _ (count_stk h0)
theorem flat_len {α : Type} {g : α → List UInt8} (h : ∀ x, 1 ≤ (g x).length) : ∀ l : List α, l.length ≤ ((l.map g).flatten).length
  | [] => by simp
  | x :: l => by have := flat_len h l; have := h x; simp at *; omega
def okCf (c : Config) : Prop := I64 c.epoch ∧ c.members.length ≤ 5 ∧ ∀ m ∈ c.members, okMb m
theorem cod_config : Cod configR configF okCf :=
  (cod_int.seq (fun _ _ => cod_cnt (m := 5) (by omega) cod_mems fun l _ => flat_len (fun m => by rw [memF_length]; omega) l) fun _ => (cod_cnt (m := 5) (by omega) cod_mems fun l _ => flat_len (fun m => by rw [memF_length]; omega) l).stk).iso
    (fun x => ⟨x.1, x.2⟩) (fun c => (c.epoch, c.members)) (fun st => rfl) (fun c _ => by simp [configF, numS]) (fun c hc => ⟨⟨hc.1, by have := hc.2.1; dsimp only; omega, hc.2.2⟩, rfl⟩) fun x hx => ⟨⟨hx.1, by have := hx.2.1; dsimp only at this ⊢; omega, hx.2.2⟩, rfl⟩
end Go.Proofs.Ytkdbedbefojieaa
