/-
  Texts joined: W1, W2, W3, W4, W5, W11, W12, W13, V1, Ca, V7, V8, V9, Lk2, Lk3, Br, BrA.
-/
import Derived.Test.YtnjfchigdpifmaaZ1
import Derived.Test.YtnjfchigdpifmaaZ2
import Derived.Test.YtnjfchigdpifmaaRows
import Derived.OpenShut
import Derived.Carry
import Derived.ChangeArms
import Derived.ChangeSame
import Derived.ChangeMaps5
import Derived.JoinedCond
import Derived.Deep.Slices
namespace Go.Proofs.Ytnjfchigdpifmaa
set_option linter.unusedVariables false
set_option linter.unusedSimpArgs false
set_option maxHeartbeats 8000000
open Go.RowKit
set_option maxRecDepth 100000
abbrev tB : TypeId := 22
abbrev eS (l : List UInt8) : List AV := [bs none l]
abbrev bss (o : Option TypeId) (ls : List (List UInt8)) : AV := .sl o 1 (ls.map eS)
theorem ro_S (l : List (List UInt8)) : roE (l.map eS) = l.map eS := by
  rw [roE_map]
  refine List.map_congr_left fun x _ => ?_
  simp only [eS, roC, AV.ro, ro_B]
theorem wcat_ac (ls : List (List UInt8)) (hl : ls.length ≤ 100000000) (hf : ls.flatten.length ≤ 100000000) :
    AC Try.prog 26 [bss none ls] [] (fun v bs' => v = bs (some tU) ls.flatten ∧ bs' = []) := by
  refine AC.N Try.func26 Try.ntmps26 ?_
  intro X
  simp only [nx, Nat.reduceAdd, Nat.reduceSub, BEq.rfl]
  repeat' (first
    | ((first
    | ((with_reducible apply AP.k_any); first
             | refine AP.S ?_
             | refine AP.E ?_
      )
    
    )
      <;> (try simp only [nx, Nat.reduceAdd, Nat.reduceSub, BEq.rfl]))
    | ((with_reducible apply AP.k_nil); first
        | (refine AP.nil (hQ' _ ?_); clear hQ' Q')
        | refine AP.nil ?_)
    | ((with_reducible apply CP.k_reg); refine cp_regG fun Q' hQ' => ?_)
      | (with_reducible apply CP.k_reg1; refine cp_region ?_)
      | ((with_reducible apply CP.k_cond); first | refine cp_condT rfl ?_ | refine cp_condF rfl ?_ | refine cp_cond rfl (fun hc => ?_) (fun hc => ?_))
      | refine CP.go ?_
      | (simp only [List.append_eq, List.cons_append, List.nil_append]))
  refine CP.gh (gh_nil (t := 3) (e := tU) (k := 1) rfl) ?_
  simp only [nx, Nat.reduceAdd, Nat.reduceSub, BEq.rfl]
  refine cp_loopS [3, 5, 8, 9, 10, 11, 12, 13, 14, 15] (fun a : Nat × Nat => ls.length - a.1) (fun a => a.1 ≤ ls.length) (fun a => [(8, I a.1), (3, .hd 0 a.2)]) (fun a => [(0, ⟨a.2, .r tU 1 ((ls.take a.1).flatten.map eB)⟩)]) (0, 1) (Nat.zero_le _) (by exact Gh.W) ?_
  rintro ⟨k, u⟩ hk
  simp only [setT, deT, setB, List.set_cons_succ, List.set_cons_zero]
  dsimp only at hk
  by_cases hlt : k < ls.length
  · have hw : IntKind.i64.wrap ((k : Int) + 1) = ((k + 1 : Nat) : Int) := wrap_i64 (by omega) (by omega)
    have hlen : (ls.take k).flatten.length + ls[k].length ≤ 100000000 := by
      have h1 : (ls.take k).flatten ++ ls[k] = (ls.take (k + 1)).flatten := by rw [List.take_succ_eq_append_getElem hlt, List.flatten_append, List.flatten_cons, List.flatten_nil, List.append_nil]
      have h2 : (ls.take (k + 1)).flatten ++ (ls.drop (k + 1)).flatten = ls.flatten := by rw [← List.flatten_append, List.take_append_drop]
      have h3 := congrArg List.length h1
      have h4 := congrArg List.length h2
      simp only [List.length_append] at h3 h4
      omega
    have hlen2 : ((ls.take k).flatten.map eB).length + (ls[k].map eB).length ≤ 1000000000 := by rw [List.length_map, List.length_map]; omega
    repeat' (first
      | ((first
      | ((with_reducible apply AP.k_any); first
               | refine AP.S ?_
               | refine AP.E ?_
        )
      
      )
        <;> (try simp only [nx, Nat.reduceAdd, Nat.reduceSub, BEq.rfl]))
      | ((with_reducible apply AP.k_nil); first
          | (refine AP.nil (hQ' _ ?_); clear hQ' Q')
          | refine AP.nil ?_)
      | ((with_reducible apply CP.k_reg); refine cp_regG fun Q' hQ' => ?_)
        | (with_reducible apply CP.k_reg1; refine cp_region ?_)
        | ((with_reducible apply CP.k_cond); first | refine cp_condT rfl ?_ | refine cp_condF rfl ?_ | refine cp_cond rfl (fun hc => ?_) (fun hc => ?_))
        | refine CP.go ?_
        | (simp only [List.append_eq, List.cons_append, List.nil_append]))
    · simp only [hw]
      refine ⟨(k + 1, u + 1), by (dsimp only; omega), by (dsimp only; omega), ?_⟩
      have h1 : (ls.take (k + 1)).flatten.map eB = (ls.take k).flatten.map eB ++ ls[k].map eB := by rw [List.take_succ_eq_append_getElem hlt, List.flatten_append, List.flatten_cons, List.flatten_nil, List.append_nil, List.map_append]
      simp only [h1]
      exact Gh.W
    · exfalso; simp at *; omega
  · obtain rfl : k = ls.length := by omega
    rw [List.take_length]
    repeat' (first
      | ((first
      | ((with_reducible apply AP.k_any); first
               | refine AP.S ?_
               | refine AP.E ?_
        )
      
      )
        <;> (try simp only [nx, Nat.reduceAdd, Nat.reduceSub, BEq.rfl]))
      | ((with_reducible apply AP.k_nil); first
          | (refine AP.nil (hQ' _ ?_); clear hQ' Q')
          | refine AP.nil ?_)
      | ((with_reducible apply CP.k_reg); refine cp_regG fun Q' hQ' => ?_)
        | (with_reducible apply CP.k_reg1; refine cp_region ?_)
        | ((with_reducible apply CP.k_cond); first | refine cp_condT rfl ?_ | refine cp_condF rfl ?_ | refine cp_cond rfl (fun hc => ?_) (fun hc => ?_))
        | refine CP.go ?_
        | (simp only [List.append_eq, List.cons_append, List.nil_append]))
    all_goals first
      | (exfalso; simp at *; done)
      | (exfalso; simp at *; omega)
      | (refine RetQ.B [] ?_; (try dsimp only [resV, List.getD_cons_succ, List.getD_cons_zero]); (exact ⟨rfl, rfl⟩))
end Go.Proofs.Ytnjfchigdpifmaa

namespace Go.Proofs.Ytnjfchigdpifmaa
set_option linter.unusedVariables false
set_option linter.unusedSimpArgs false
open Go.RowKit
set_option maxRecDepth 100000
/-- the last n bytes of a number -/
def putS (x : Nat) : Nat → List UInt8
  | 0 => []
  | n + 1 => UInt8.ofNat (x / 256 ^ n % 256) :: putS x n
theorem putS_length (x : Nat) : ∀ n, (putS x n).length = n
  | 0 => rfl
  | n + 1 => by simp [putS, putS_length x n]
theorem put_set (x n i : Nat) (hi : i < n) : (List.replicate (n - i) (0 : UInt8) ++ putS x i).set (n - 1 - i) (UInt8.ofNat (x / 256 ^ i % 256)) = List.replicate (n - (i + 1)) (0 : UInt8) ++ putS x (i + 1) := by
  have e : List.replicate (n - i) (0 : UInt8) = List.replicate (n - (i + 1)) 0 ++ [0] := by
    rw [show n - i = n - (i + 1) + 1 by omega, List.replicate_succ']
  rw [e, List.append_assoc, List.set_append_right _ _ (by simp; omega)]
  simp only [List.length_replicate, show n - 1 - i - (n - (i + 1)) = 0 by omega, List.cons_append, List.nil_append, List.set_cons_zero, putS]
theorem byte_of (x i : Nat) (hi : i < 8) : IntKind.u8.wrap (((x : Int)).fdiv (2 ^ (min (8 * i) 64))) = ((UInt8.ofNat (x / 256 ^ i % 256)).toNat : Int) := by
  have h1 : min (8 * i) 64 = 8 * i := by omega
  have h2 : (2 : Int) ^ (8 * i) = ((256 ^ i : Nat) : Int) := by
    rw [Int.pow_mul]; simp [Int.natCast_pow]
  rw [h1, h2, Int.fdiv_eq_ediv_of_nonneg _ (Int.natCast_nonneg _)]
  have h3 : ((x : Int) / ((256 ^ i : Nat) : Int)) = ((x / 256 ^ i : Nat) : Int) := by simp
  rw [h3]
  generalize x / 256 ^ i = y
  rw [UInt8.toNat_ofNat']
  simp [IntKind.wrap, IntKind.bits, IntKind.signed]
end Go.Proofs.Ytnjfchigdpifmaa

namespace Go.Proofs.Ytnjfchigdpifmaa
set_option linter.unusedVariables false
set_option linter.unusedSimpArgs false
set_option maxHeartbeats 8000000
open Go.RowKit
set_option maxRecDepth 100000
theorem put_ac (x n : Nat) (hn : n ≤ 8) :
    AC Try.prog 97 [.sc (.int .u64 (x : Int)), I n] [] (fun v bs' => v = bs (some tU) (putS x n) ∧ bs' = []) := by
  refine AC.N Try.func97 Try.ntmps97 ?_
  intro X
  simp only [nx, Nat.reduceAdd, Nat.reduceSub, BEq.rfl]
  repeat' (first
    | ((first
    | ((with_reducible apply AP.k_any); first
             | refine AP.S ?_
             | refine AP.E ?_
             | refine AP.T ?_
      )
    | ((with_reducible apply AP.k_any); refine ap_makeS rfl rfl rfl rfl rfl rfl rfl rfl rfl rfl rfl (by omega) ?_)
    )
      <;> (try simp only [nx, Nat.reduceAdd, Nat.reduceSub, BEq.rfl]))
    | ((with_reducible apply AP.k_nil); first
        | (refine AP.nil (hQ' _ ?_); clear hQ' Q')
        | refine AP.nil ?_)
    | ((with_reducible apply CP.k_reg); refine cp_regG fun Q' hQ' => ?_)
      | (with_reducible apply CP.k_reg1; refine cp_region ?_)
      | ((with_reducible apply CP.k_cond); first | refine cp_condT rfl ?_ | refine cp_condF rfl ?_ | refine cp_cond rfl (fun hc => ?_) (fun hc => ?_))
      | refine CP.go ?_
      | (simp only [List.append_eq, List.cons_append, List.nil_append]))
  have e0 : (List.replicate n [AV.sc (.int .u8 0)]) = (List.replicate (n - 0) (0 : UInt8) ++ putS x 0).map eB := by simp [List.map_replicate, putS]
  simp only [List.map_cons, List.map_nil, ZC.val, e0]
  refine cp_loopS [6, 10, 11, 12, 13, 14, 15, 16, 17, 18, 19, 20, 21, 22, 23, 24] (fun i : Nat => n - i) (fun i => i ≤ n) (fun i => [(10, I i)]) (fun i => [(0, ⟨1, .r tU 1 ((List.replicate (n - i) (0 : UInt8) ++ putS x i).map eB)⟩)]) 0 (Nat.zero_le _) (by exact Gh.W) ?_
  rintro i hi
  simp only [setT, deT, setB, List.set_cons_succ, List.set_cons_zero]
  by_cases hlt : i < n
  · have hw : IntKind.i64.wrap ((i : Int) + 1) = ((i + 1 : Nat) : Int) := wrap_i64 (by omega) (by omega)
    have h8 : IntKind.i64.wrap (8 * (i : Int)) = ((8 * i : Nat) : Int) := by rw [wrap_i64 (by omega) (by omega)]; simp
    have h1 : IntKind.i64.wrap ((n : Int) - 1) = ((n - 1 : Nat) : Int) := by rw [wrap_i64 (by omega) (by omega)]; omega
    have h9 : IntKind.i64.wrap (IntKind.i64.wrap ((n : Int) - 1) - i) = ((n - 1 - i : Nat) : Int) := by rw [h1, wrap_i64 (by omega) (by omega)]; omega
    have hpl := putS_length x i
    have hlen : (List.replicate (n - i) (0 : UInt8) ++ putS x i).length = n := by simp [hpl]; omega
    have hby := byte_of x i (by omega)
    have hset := put_set x n i hlt
    repeat' (first
      | ((first
      | ((with_reducible apply AP.k_any); first
               | refine AP.S ?_
               | refine AP.E ?_
               | refine AP.T ?_
        )
      
      )
        <;> (try simp only [nx, Nat.reduceAdd, Nat.reduceSub, BEq.rfl]))
      | ((with_reducible apply AP.k_nil); first
          | (refine AP.nil (hQ' _ ?_); clear hQ' Q')
          | refine AP.nil ?_)
      | ((with_reducible apply CP.k_reg); refine cp_regG fun Q' hQ' => ?_)
        | (with_reducible apply CP.k_reg1; refine cp_region ?_)
        | ((with_reducible apply CP.k_cond); first | refine cp_condT rfl ?_ | refine cp_condF rfl ?_ | refine cp_cond rfl (fun hc => ?_) (fun hc => ?_))
        | refine CP.go ?_
        | (simp only [List.append_eq, List.cons_append, List.nil_append]))
    · simp only [hw, h8, h9, Int.toNat_natCast]
      refine ⟨i + 1, by omega, by omega, ?_⟩
      have e1 : IntKind.u8.wrap ((x : Int).fdiv (2 ^ (min (8 * i) IntKind.u64.bits))) = ((UInt8.ofNat (x / 256 ^ i % 256)).toNat : Int) := hby
      rw [e1, show ∀ y : UInt8, [AV.sc (.int .u8 (y.toNat : Int))] = eB y from fun _ => rfl, ← List.map_set, hset]
      exact Gh.W
    · exfalso; simp at *; omega
  · obtain rfl : i = n := by omega
    repeat' (first
      | ((first
      | ((with_reducible apply AP.k_any); first
               | refine AP.S ?_
               | refine AP.E ?_
               | refine AP.T ?_
        )
      
      )
        <;> (try simp only [nx, Nat.reduceAdd, Nat.reduceSub, BEq.rfl]))
      | ((with_reducible apply AP.k_nil); first
          | (refine AP.nil (hQ' _ ?_); clear hQ' Q')
          | refine AP.nil ?_)
      | ((with_reducible apply CP.k_reg); refine cp_regG fun Q' hQ' => ?_)
        | (with_reducible apply CP.k_reg1; refine cp_region ?_)
        | ((with_reducible apply CP.k_cond); first | refine cp_condT rfl ?_ | refine cp_condF rfl ?_ | refine cp_cond rfl (fun hc => ?_) (fun hc => ?_))
        | refine CP.go ?_
        | (simp only [List.append_eq, List.cons_append, List.nil_append]))
    all_goals first
      | (exfalso; simp at *; done)
      | (exfalso; simp at *; omega)
      | (refine RetQ.B [] ?_; (try dsimp only [resV, List.getD_cons_succ, List.getD_cons_zero]); (exact ⟨by simp, rfl⟩))
end Go.Proofs.Ytnjfchigdpifmaa

namespace Go.Proofs.Ytnjfchigdpifmaa
set_option linter.unusedVariables false
set_option linter.unusedSimpArgs false
set_option maxHeartbeats 8000000
open Go.RowKit
set_option maxRecDepth 100000
theorem put64_ac (x : Nat) :
    AC Try.prog 86 [.sc (.int .u64 (x : Int))] [] (fun v bs' => v = bs none (putS x 8) ∧ bs' = []) := by
  have h := (put_ac x 8 (by omega)).ro (r2 := bs none (putS x 8)) (by simp [AV.ro, ro_B])
  refine AC.N Try.func86 Try.ntmps86 ?_
  intro X
  simp only [nx, Nat.reduceAdd, Nat.reduceSub, BEq.rfl]
  repeat' (first
    | ((first
    | ((with_reducible apply AP.k_any); first
             | refine AP.S ?_
      )
    | ((with_reducible apply AP.k_any); refine AP.C (h) ?_)
    )
      <;> (try simp only [nx, Nat.reduceAdd, Nat.reduceSub, BEq.rfl]))
    | ((with_reducible apply AP.k_nil); first
        | (refine AP.nil (hQ' _ ?_); clear hQ' Q')
        | refine AP.nil ?_)
    | ((with_reducible apply CP.k_reg); refine cp_regG fun Q' hQ' => ?_)
      | (with_reducible apply CP.k_reg1; refine cp_region ?_)
      | ((with_reducible apply CP.k_cond); first | refine cp_condT rfl ?_ | refine cp_condF rfl ?_ | refine cp_cond rfl (fun hc => ?_) (fun hc => ?_))
      | refine CP.go ?_
      | (simp only [List.append_eq, List.cons_append, List.nil_append]))
  (refine RetQ.B [] ?_; (try dsimp only [resV, List.getD_cons_succ, List.getD_cons_zero]); (exact ⟨rfl, rfl⟩))
abbrev tW : TypeId := 113
abbrev wB (st : Bool × List UInt8) : Bx := .c tW [B true, B st.1, bs (some tU) st.2]
def addS (st : Bool × List UInt8) (b : List UInt8) : Bool × List UInt8 := if st.1 = true ∨ 65536 < st.2.length + b.length then (true, st.2) else (false, st.2 ++ b)
theorem addS_len {st : Bool × List UInt8} {b : List UInt8} (h : st.2.length ≤ 65536) : (addS st b).2.length ≤ 65536 := by
  unfold addS
  split
  · exact h
  · simp; omega
theorem add_ac (st : Bool × List UInt8) (ls : List (List UInt8)) (hst : st.2.length ≤ 65536) (hl : ls.length ≤ 1000) (hb : ∀ b ∈ ls, b.length ≤ 100000000) :
    AC Try.prog 78 [.bp 0 0 0, bss (some tB) ls] [wB st] (fun v bs' => v = .bp 0 0 0 ∧ bs' = [wB (ls.foldl addS st)]) := by
  refine AC.N Try.func78 Try.ntmps78 ?_
  intro X
  simp only [nx, Nat.reduceAdd, Nat.reduceSub, BEq.rfl]
  repeat' (first
    | ((first
    | ((with_reducible apply AP.k_any); first
             | refine AP.S ?_
             | refine AP.E ?_
             | (refine AP.Y ?_; dsimp only) | refine AP.G (fun hg => ?_) (fun hg => ?_)
             | refine AP.T ?_
             | (refine AP.V (fun c hnil => ?_); simp only [nz])
      )
    
    )
      <;> (try simp only [nx, Nat.reduceAdd, Nat.reduceSub, BEq.rfl]))
    | ((with_reducible apply AP.k_nil); first
        | (refine AP.nil (hQ' _ ?_); clear hQ' Q')
        | refine AP.nil ?_)
    | ((with_reducible apply CP.k_reg); refine cp_regG fun Q' hQ' => ?_)
      | (with_reducible apply CP.k_reg1; refine cp_region ?_)
      | ((with_reducible apply CP.k_cond); first | refine cp_condT rfl ?_ | refine cp_condF rfl ?_ | refine cp_cond rfl (fun hc => ?_) (fun hc => ?_))
      | refine CP.go ?_
      | (simp only [List.append_eq, List.cons_append, List.nil_append]))
  refine cp_loopS [6, 19, 20, 21, 22, 23, 24, 25, 26, 27, 28, 29, 30, 31, 32, 33, 34, 35, 36, 37, 38, 39, 40, 41, 42, 43, 44, 45, 46, 47, 48, 49, 50, 51, 52, 53, 54, 55] (fun a : Nat × (Bool × List UInt8) × Nat => ls.length - a.1) (fun a => a.1 ≤ ls.length ∧ a.2.1 = (ls.take a.1).foldl addS st ∧ a.2.1.2.length ≤ 65536) (fun a => [(19, I a.1)]) (fun a => [(0, ⟨0, .c tW [B true, B a.2.1.1, .hd 1 a.2.2]⟩), (1, ⟨a.2.2, .r tU 1 (a.2.1.2.map eB)⟩)]) (0, st, 1) ⟨Nat.zero_le _, rfl, hst⟩ (by exact Gh.W) ?_
  rintro ⟨k, ⟨lg, acc⟩, u⟩ ⟨hk, hs, ha⟩
  simp only [setT, deT, setB, List.set_cons_succ, List.set_cons_zero]
  dsimp only at hk hs ha
  by_cases hlt : k < ls.length
  · have hw : IntKind.i64.wrap ((k : Int) + 1) = ((k + 1 : Nat) : Int) := wrap_i64 (by omega) (by omega)
    have hw2 : IntKind.i64.wrap (65536 - (acc.length : Int)) = ((65536 - acc.length : Nat) : Int) := by rw [wrap_i64 (by omega) (by omega)]; omega
    have hbk := hb ls[k] (List.getElem_mem hlt)
    have hfo : (ls.take (k + 1)).foldl addS st = addS (lg, acc) ls[k] := by rw [List.take_succ_eq_append_getElem hlt, List.foldl_append, ← hs]; rfl
    have hal := addS_len (st := (lg, acc)) (b := ls[k]) ha
    repeat' (first
      | ((first
      | ((with_reducible apply AP.k_any); first
               | refine AP.S ?_
               | refine AP.E ?_
               | (refine AP.Y ?_; dsimp only) | refine AP.G (fun hg => ?_) (fun hg => ?_)
               | refine AP.T ?_
               | (refine AP.V (fun c hnil => ?_); simp only [nz])
        )
      
      )
        <;> (try simp only [nx, Nat.reduceAdd, Nat.reduceSub, BEq.rfl]))
      | ((with_reducible apply AP.k_nil); first
          | (refine AP.nil (hQ' _ ?_); clear hQ' Q')
          | refine AP.nil ?_)
      | ((with_reducible apply CP.k_reg); refine cp_regG fun Q' hQ' => ?_)
        | (with_reducible apply CP.k_reg1; refine cp_region ?_)
        | ((with_reducible apply CP.k_cond); first | refine cp_condT rfl ?_ | refine cp_condF rfl ?_ | refine cp_cond rfl (fun hc => ?_) (fun hc => ?_))
        | refine CP.go ?_
        | (simp only [List.append_eq, List.cons_append, List.nil_append]))
    · subst hg
      have e : addS (true, acc) ls[k] = (true, acc) := by simp [addS]
      simp only [hw]
      exact ⟨(k + 1, (true, acc), u), by (dsimp only; omega), ⟨by (dsimp only; omega), by rw [hfo, e], ha⟩, by exact Gh.W⟩
    · subst hg
      have hd : decide (IntKind.i64.wrap (65536 - (acc.length : Int)) < (ls[k].length : Int)) = false := by simpa using hc
      have hd2 := hd
      rw [hw2] at hd2
      simp at hd2
      have e : addS (false, acc) ls[k] = (false, acc ++ ls[k]) := by simp [addS]; omega
      simp only [hw, hd]
      refine ⟨(k + 1, (false, acc ++ ls[k]), u + 1), by (dsimp only; omega), ⟨by (dsimp only; omega), by rw [hfo, e], by (dsimp only; rw [List.length_append]; omega)⟩, ?_⟩
      simp only [List.map_append]
      exact Gh.W
    · subst hg
      have hd : decide (IntKind.i64.wrap (65536 - (acc.length : Int)) < (ls[k].length : Int)) = true := by simpa using hc
      have hd2 := hd
      rw [hw2] at hd2
      simp at hd2
      have e : addS (false, acc) ls[k] = (true, acc) := by simp [addS]; omega
      simp only [hw, hd]
      exact ⟨(k + 1, (true, acc), u), by (dsimp only; omega), ⟨by (dsimp only; omega), by rw [hfo, e], ha⟩, by exact Gh.W⟩
    · exfalso; simp at *; omega
  · obtain rfl : k = ls.length := by omega
    rw [List.take_length] at hs
    rw [← hs]
    repeat' (first
      | ((first
      | ((with_reducible apply AP.k_any); first
               | refine AP.S ?_
               | refine AP.E ?_
               | (refine AP.Y ?_; dsimp only) | refine AP.G (fun hg => ?_) (fun hg => ?_)
               | refine AP.T ?_
               | (refine AP.V (fun c hnil => ?_); simp only [nz])
        )
      
      )
        <;> (try simp only [nx, Nat.reduceAdd, Nat.reduceSub, BEq.rfl]))
      | ((with_reducible apply AP.k_nil); first
          | (refine AP.nil (hQ' _ ?_); clear hQ' Q')
          | refine AP.nil ?_)
      | ((with_reducible apply CP.k_reg); refine cp_regG fun Q' hQ' => ?_)
        | (with_reducible apply CP.k_reg1; refine cp_region ?_)
        | ((with_reducible apply CP.k_cond); first | refine cp_condT rfl ?_ | refine cp_condF rfl ?_ | refine cp_cond rfl (fun hc => ?_) (fun hc => ?_))
        | refine CP.go ?_
        | (simp only [List.append_eq, List.cons_append, List.nil_append]))
    all_goals first
      | (exfalso; simp at *; done)
      | (exfalso; simp at *; omega)
      | (exact RetQ.A [(0, 0)] (by exact ⟨rfl, rfl⟩))
end Go.Proofs.Ytnjfchigdpifmaa

namespace Go.Proofs.Ytnjfchigdpifmaa
set_option linter.unusedVariables false
set_option linter.unusedSimpArgs false
set_option maxHeartbeats 8000000
open Go.RowKit
set_option maxRecDepth 100000
theorem u64_nn (n : Int) : IntKind.u64.wrap n = ((IntKind.u64.wrap n).toNat : Int) := by
  have : 0 ≤ IntKind.u64.wrap n := by simp [IntKind.wrap, IntKind.bits, IntKind.signed]; omega
  omega
def intS (n : Int) : List UInt8 := putS (IntKind.u64.wrap n).toNat 8
def flagS (b : Bool) : List UInt8 := if b then [1] else [0]
theorem wint_ac (st : Bool × List UInt8) (n : Int) (hst : st.2.length ≤ 65536) :
    AC Try.prog 76 [.bp 0 0 0, I n] [wB st] (fun v bs' => v = .bp 0 0 0 ∧ bs' = [wB (addS st (intS n))]) := by
  have h := put64_ac (IntKind.u64.wrap n).toNat
  rw [← u64_nn] at h
  have h2 := add_ac st [intS n] hst (by simp) (by simp [intS, putS_length])
  refine AC.N Try.func76 Try.ntmps76 ?_
  intro X
  simp only [nx, Nat.reduceAdd, Nat.reduceSub, BEq.rfl]
  repeat' (first
    | ((first
    | ((with_reducible apply AP.k_any); first
             | refine AP.Z ?_
      )
    | ((with_reducible apply AP.k_any); refine AP.C (h) ?_)
    | ((with_reducible apply AP.k_any); refine AP.CB [(0, 0)] 0 (h2) ?_)
    )
      <;> (try simp only [nx, Nat.reduceAdd, Nat.reduceSub, BEq.rfl]))
    | ((with_reducible apply AP.k_nil); first
        | (refine AP.nil (hQ' _ ?_); clear hQ' Q')
        | refine AP.nil ?_)
    | ((with_reducible apply CP.k_reg); refine cp_regG fun Q' hQ' => ?_)
      | (with_reducible apply CP.k_reg1; refine cp_region ?_)
      | ((with_reducible apply CP.k_cond); first | refine cp_condT rfl ?_ | refine cp_condF rfl ?_ | refine cp_cond rfl (fun hc => ?_) (fun hc => ?_))
      | refine CP.go ?_
      | (simp only [List.append_eq, List.cons_append, List.nil_append]))
  (exact RetQ.A [(0, 0)] (by exact ⟨rfl, rfl⟩))
theorem put32_ac (x : Nat) (hx : x < 4294967296) :
    AC Try.prog 92 [.sc (.int .u32 (x : Int))] [] (fun v bs' => v = bs none (putS x 4) ∧ bs' = []) := by
  have h := (put_ac x 4 (by omega)).ro (r2 := bs none (putS x 4)) (by simp [AV.ro, ro_B])
  have hw : IntKind.u64.wrap (x : Int) = (x : Int) := by simp [IntKind.wrap, IntKind.bits, IntKind.signed]; omega
  rw [← hw] at h
  refine AC.N Try.func92 Try.ntmps92 ?_
  intro X
  simp only [nx, Nat.reduceAdd, Nat.reduceSub, BEq.rfl]
  repeat' (first
    | ((first
    | ((with_reducible apply AP.k_any); first
             | refine AP.S ?_
      )
    | ((with_reducible apply AP.k_any); refine AP.C (h) ?_)
    )
      <;> (try simp only [nx, Nat.reduceAdd, Nat.reduceSub, BEq.rfl]))
    | ((with_reducible apply AP.k_nil); first
        | (refine AP.nil (hQ' _ ?_); clear hQ' Q')
        | refine AP.nil ?_)
    | ((with_reducible apply CP.k_reg); refine cp_regG fun Q' hQ' => ?_)
      | (with_reducible apply CP.k_reg1; refine cp_region ?_)
      | ((with_reducible apply CP.k_cond); first | refine cp_condT rfl ?_ | refine cp_condF rfl ?_ | refine cp_cond rfl (fun hc => ?_) (fun hc => ?_))
      | refine CP.go ?_
      | (simp only [List.append_eq, List.cons_append, List.nil_append]))
  (refine RetQ.B [] ?_; (try dsimp only [resV, List.getD_cons_succ, List.getD_cons_zero]); (exact ⟨rfl, rfl⟩))
theorem wbytes_ac (st : Bool × List UInt8) (b : List UInt8) (hst : st.2.length ≤ 65536) (hb : b.length ≤ 100000000) :
    AC Try.prog 77 [.bp 0 0 0, bs none b] [wB st] (fun v bs' => v = .bp 0 0 0 ∧ bs' = [wB (addS (addS st (putS b.length 4)) b)]) := by
  have hw : IntKind.u32.wrap (b.length : Int) = (b.length : Int) := by simp [IntKind.wrap, IntKind.bits, IntKind.signed]; omega
  have h := put32_ac b.length (by omega)
  rw [← hw] at h
  have h2 := add_ac st [putS b.length 4, b] hst (by simp) (by simp [putS_length]; omega)
  refine AC.N Try.func77 Try.ntmps77 ?_
  intro X
  simp only [nx, Nat.reduceAdd, Nat.reduceSub, BEq.rfl]
  repeat' (first
    | ((first
    | ((with_reducible apply AP.k_any); first
             | refine AP.Z ?_
      )
    | ((with_reducible apply AP.k_any); refine AP.C (h) ?_)
    | ((with_reducible apply AP.k_any); refine AP.CB [(0, 0)] 0 (h2) ?_)
    )
      <;> (try simp only [nx, Nat.reduceAdd, Nat.reduceSub, BEq.rfl]))
    | ((with_reducible apply AP.k_nil); first
        | (refine AP.nil (hQ' _ ?_); clear hQ' Q')
        | refine AP.nil ?_)
    | ((with_reducible apply CP.k_reg); refine cp_regG fun Q' hQ' => ?_)
      | (with_reducible apply CP.k_reg1; refine cp_region ?_)
      | ((with_reducible apply CP.k_cond); first | refine cp_condT rfl ?_ | refine cp_condF rfl ?_ | refine cp_cond rfl (fun hc => ?_) (fun hc => ?_))
      | refine CP.go ?_
      | (simp only [List.append_eq, List.cons_append, List.nil_append]))
  (exact RetQ.A [(0, 0)] (by exact ⟨rfl, rfl⟩))
theorem wnew_ac : AC Try.prog 75 [] [] (fun v bs' => v = .bp 0 0 0 ∧ bs' = [wB (false, [])]) := by
  refine AC.N Try.func75 Try.ntmps75 ?_
  intro X
  simp only [nx, Nat.reduceAdd, Nat.reduceSub, BEq.rfl]
  repeat' (first
    | ((first
    | ((with_reducible apply AP.k_any); first
             | refine AP.S ?_
      )
    
    )
      <;> (try simp only [nx, Nat.reduceAdd, Nat.reduceSub, BEq.rfl]))
    | ((with_reducible apply AP.k_nil); first
        | (refine AP.nil (hQ' _ ?_); clear hQ' Q')
        | refine AP.nil ?_)
    | ((with_reducible apply CP.k_reg); refine cp_regG fun Q' hQ' => ?_)
      | (with_reducible apply CP.k_reg1; refine cp_region ?_)
      | ((with_reducible apply CP.k_cond); first | refine cp_condT rfl ?_ | refine cp_condF rfl ?_ | refine cp_cond rfl (fun hc => ?_) (fun hc => ?_))
      | refine CP.go ?_
      | (simp only [List.append_eq, List.cons_append, List.nil_append]))
  (exact RetQ.A [(0, 1)] (by exact ⟨rfl, rfl⟩))
/-- a writer behind its end: what it wrote may be read -/
abbrev wD (st : Bool × List UInt8) : Bx := .c tW [B true, B st.1, bs none st.2]
theorem wdone_ac (st : Bool × List UInt8) (hst : st.2.length ≤ 65536) :
    AC Try.prog 49 [.bp 0 0 0] [wB st] (fun v bs' => v = .tu [bs none (if st.1 then [] else st.2), I (if st.1 then 3 else 0)] ∧ bs' = [wD st]) := by
  obtain ⟨lg, acc⟩ := st
  have h := (wcat_ac [acc] (by simp) (by simp at hst ⊢; omega)).ro (r2 := bs none acc) (by simp [AV.ro, ro_B])
  cases lg with
  | true =>
    refine AC.N Try.func49 Try.ntmps49 ?_
    intro X
    simp only [nx, Nat.reduceAdd, Nat.reduceSub, BEq.rfl]
    refine CP.gh (gh_fz (b := 1) (u := 1) rfl rfl (by (repeat' (first | exact FzC.nil | apply FzC.cons | exact FzV.hd | apply FzV.ag | exact FzV.same))) (by (repeat' (first | exact FzB.nil | apply FzB.c | apply FzB.same | exact FzC.nil | apply FzC.cons | exact FzV.hd | apply FzV.ag | exact FzV.same)))) ?_
    simp only [ro_B]
    repeat' (first
      | ((first
      | ((with_reducible apply AP.k_any); first
               | refine AP.S ?_
               | (refine AP.Y ?_; dsimp only) | refine AP.G (fun hg => ?_) (fun hg => ?_)
               | (refine AP.V (fun c hnil => ?_); simp only [nz])
        )
      
      )
        <;> (try simp only [nx, Nat.reduceAdd, Nat.reduceSub, BEq.rfl]))
      | ((with_reducible apply AP.k_nil); first
          | (refine AP.nil (hQ' _ ?_); clear hQ' Q')
          | refine AP.nil ?_)
      | ((with_reducible apply CP.k_reg); refine cp_regG fun Q' hQ' => ?_)
        | (with_reducible apply CP.k_reg1; refine cp_region ?_)
        | ((with_reducible apply CP.k_cond); first | refine cp_condT rfl ?_ | refine cp_condF rfl ?_ | refine cp_cond rfl (fun hc => ?_) (fun hc => ?_))
        | refine CP.go ?_
        | (simp only [List.append_eq, List.cons_append, List.nil_append]))
    (exact RetQ.A [(0, 0)] (by exact ⟨rfl, rfl⟩))
  | false =>
    refine AC.N Try.func49 Try.ntmps49 ?_
    intro X
    simp only [nx, Nat.reduceAdd, Nat.reduceSub, BEq.rfl]
    refine CP.gh (gh_fz (b := 1) (u := 1) rfl rfl (by (repeat' (first | exact FzC.nil | apply FzC.cons | exact FzV.hd | apply FzV.ag | exact FzV.same))) (by (repeat' (first | exact FzB.nil | apply FzB.c | apply FzB.same | exact FzC.nil | apply FzC.cons | exact FzV.hd | apply FzV.ag | exact FzV.same)))) ?_
    simp only [ro_B]
    repeat' (first
      | ((first
      | ((with_reducible apply AP.k_any); first
               | refine AP.S ?_
               | (refine AP.Y ?_; dsimp only) | refine AP.G (fun hg => ?_) (fun hg => ?_)
               | (refine AP.V (fun c hnil => ?_); simp only [nz])
        )
      | ((with_reducible apply AP.k_any); refine AP.C (h) ?_)
        | ((with_reducible apply AP.k_any); refine AP.gh (gh_fz (b := 1) (u := 2) rfl rfl (by (repeat' (first | exact FzC.nil | apply FzC.cons | exact FzV.hd | apply FzV.ag | exact FzV.same))) (by (repeat' (first | exact FzB.nil | apply FzB.c | apply FzB.same | exact FzC.nil | apply FzC.cons | exact FzV.hd | apply FzV.ag | exact FzV.same)))) ?_; first | simp only [roE, roC, AV.ro, ro_B, ro_M, ro_E] | simp only [roE, roC, AV.ro, ro_B])
      )
        <;> (try simp only [nx, Nat.reduceAdd, Nat.reduceSub, BEq.rfl]))
      | ((with_reducible apply AP.k_nil); first
          | (refine AP.nil (hQ' _ ?_); clear hQ' Q')
          | refine AP.nil ?_)
      | ((with_reducible apply CP.k_reg); refine cp_regG fun Q' hQ' => ?_)
        | (with_reducible apply CP.k_reg1; refine cp_region ?_)
        | ((with_reducible apply CP.k_cond); first | refine cp_condT rfl ?_ | refine cp_condF rfl ?_ | refine cp_cond rfl (fun hc => ?_) (fun hc => ?_))
        | refine CP.go ?_
        | (simp only [List.append_eq, List.cons_append, List.nil_append]))
    (exact RetQ.A [(0, 0)] (by exact ⟨rfl, rfl⟩))
end Go.Proofs.Ytnjfchigdpifmaa

namespace Go.Proofs.Ytnjfchigdpifmaa
set_option linter.unusedVariables false
set_option linter.unusedSimpArgs false
set_option maxHeartbeats 8000000
open Go.RowKit
set_option maxRecDepth 100000
def beN (l : List UInt8) : Nat := l.foldl (fun x c => 256 * x + c.toNat) 0
theorem beN_snoc (l : List UInt8) (c : UInt8) : beN (l ++ [c]) = 256 * beN l + c.toNat := by simp [beN, List.foldl_append]
theorem beN_lt (l : List UInt8) : beN l < 256 ^ l.length := by
  have h : ∀ (l : List UInt8) (x : Nat), l.foldl (fun x c => 256 * x + c.toNat) x + 1 ≤ (x + 1) * 256 ^ l.length := by
    intro l
    induction l with
    | nil => intro x; simp
    | cons c l ih =>
      intro x
      refine Nat.le_trans (ih _) ?_
      rw [List.length_cons, Nat.pow_succ', ← Nat.mul_assoc]
      refine Nat.mul_le_mul_right _ ?_
      have := c.toNat_lt
      show 256 * x + c.toNat + 1 ≤ _
      omega
  have := h l 0
  simp only [beN]
  omega
def loadS (b : List UInt8) (p : Int) (n : Nat) : Nat × Bool := if p < 0 ∨ (b.length : Int) - n < p then (0, false) else (beN ((b.drop p.toNat).take n), true)
theorem or8 (x c : Nat) (hx : x < 2 ^ 56) (hc : c < 256) : IntKind.u64.wrap (BitVec.toNat (BitVec.ofInt 64 (IntKind.u64.wrap ((x : Int) * 2 ^ 8)) ||| BitVec.ofInt 64 (IntKind.u64.wrap (c : Int)))) = ((256 * x + c : Nat) : Int) := by
  have e1 : IntKind.u64.wrap ((x : Int) * 2 ^ 8) = ((x * 256 : Nat) : Int) := by simp [IntKind.wrap, IntKind.bits, IntKind.signed]; omega
  have e2 : IntKind.u64.wrap (c : Int) = (c : Int) := by simp [IntKind.wrap, IntKind.bits, IntKind.signed]; omega
  rw [e1, e2, BitVec.ofInt_natCast, BitVec.ofInt_natCast, BitVec.toNat_or, BitVec.toNat_ofNat, BitVec.toNat_ofNat, Nat.mod_eq_of_lt (by omega), Nat.mod_eq_of_lt (by omega)]
  have e3 : x * 256 ||| c = 256 * x + c := by
    have := Nat.shiftLeft_add_eq_or_of_lt (i := 8) (b := c) hc x
    rw [Nat.shiftLeft_eq, show (2 : Nat) ^ 8 = 256 from rfl] at this
    omega
  rw [e3]
  simp [IntKind.wrap, IntKind.bits, IntKind.signed]; omega
theorem or8' (x c : Nat) (hx : x < 2 ^ 56) (hc : c < 256) : IntKind.u64.wrap (BitVec.toNat (BitVec.ofInt IntKind.u64.bits (IntKind.u64.wrap ((x : Int) * 2 ^ min (Int.toNat 8) IntKind.u64.bits)) ||| BitVec.ofInt IntKind.u64.bits (IntKind.u64.wrap (c : Int)))) = ((256 * x + c : Nat) : Int) := or8 x c hx hc
theorem load_ac (b : List UInt8) (p : Int) (n : Nat) (hn : n ≤ 8) (hb : b.length ≤ 100000000) (hp : p ≤ 200000000) (hp2 : -1000000 ≤ p) :
    AC Try.prog 83 [bs none b, I p, I n] [] (fun v bs' => v = .tu [.sc (.int .u64 ((loadS b p n).1 : Int)), B (loadS b p n).2] ∧ bs' = []) := by
  have hw0 : IntKind.i64.wrap ((b.length : Int) - n) = (b.length : Int) - n := wrap_i64 (by omega) (by omega)
  have hw1 : IntKind.i64.wrap (p + n) = p + n := wrap_i64 (by omega) (by omega)
  by_cases hs : p < 0 ∨ (b.length : Int) - n < p
  · have e0 : loadS b p n = (0, false) := by simp [loadS, hs]
    rw [e0]
    refine AC.N Try.func83 Try.ntmps83 ?_
    intro X
    simp only [nx, Nat.reduceAdd, Nat.reduceSub, BEq.rfl]
    repeat' (first
      | ((first
      | ((with_reducible apply AP.k_any); first
               | refine AP.S ?_
               | refine AP.E ?_
               | (refine AP.Y ?_; dsimp only) | refine AP.G (fun hg => ?_) (fun hg => ?_)
        )
      
      )
        <;> (try simp only [nx, Nat.reduceAdd, Nat.reduceSub, BEq.rfl]))
      | ((with_reducible apply AP.k_nil); first
          | (refine AP.nil (hQ' _ ?_); clear hQ' Q')
          | refine AP.nil ?_)
      | ((with_reducible apply CP.k_reg); refine cp_regG fun Q' hQ' => ?_)
        | (with_reducible apply CP.k_reg1; refine cp_region ?_)
        | ((with_reducible apply CP.k_cond); first | refine cp_condT rfl ?_ | refine cp_condF rfl ?_ | refine cp_cond rfl (fun hc => ?_) (fun hc => ?_))
        | refine CP.go ?_
        | (simp only [List.append_eq, List.cons_append, List.nil_append]))
    all_goals first
      | (refine RetQ.B [] ?_; (try dsimp only [resV, List.getD_cons_succ, List.getD_cons_zero]); (exact ⟨rfl, rfl⟩))
      | (exfalso; simp [hw0] at *; omega)
  · have e0 : loadS b p n = (beN ((b.drop p.toNat).take n), true) := by simp [loadS, hs]
    rw [e0]
    obtain ⟨q, rfl⟩ : ∃ q : Nat, p = q := ⟨p.toNat, by omega⟩
    have g1 : (q : Int) ≤ IntKind.i64.wrap ((q : Int) + n) := by rw [hw1]; omega
    have g2 : IntKind.i64.wrap ((q : Int) + n) ≤ ((b.map eB).length : Int) := by rw [hw1]; simp; omega
    have e2 : (b.drop q).take (((q : Int) + n).toNat - q) = (b.drop q).take n := by rw [show ((q : Int) + n).toNat - q = n by omega]
    have hl : ((b.drop q).take n).length = n := by (rw [List.length_take, List.length_drop]; omega)
    refine AC.N Try.func83 Try.ntmps83 ?_
    intro X
    simp only [nx, Nat.reduceAdd, Nat.reduceSub, BEq.rfl]
    repeat' (first
      | ((first
      | ((with_reducible apply AP.k_any); first
               | refine AP.S ?_
               | refine AP.E ?_
               | (refine AP.Y ?_; dsimp only) | refine AP.G (fun hg => ?_) (fun hg => ?_)
        )
      
      )
        <;> (try simp only [nx, Nat.reduceAdd, Nat.reduceSub, BEq.rfl]))
      | ((with_reducible apply AP.k_nil); first
          | (refine AP.nil (hQ' _ ?_); clear hQ' Q')
          | refine AP.nil ?_)
      | ((with_reducible apply CP.k_reg); refine cp_regG fun Q' hQ' => ?_)
        | (with_reducible apply CP.k_reg1; refine cp_region ?_)
        | ((with_reducible apply CP.k_cond); first | refine cp_condT rfl ?_ | refine cp_condF rfl ?_ | refine cp_cond rfl (fun hc => ?_) (fun hc => ?_))
        | refine CP.go ?_
        | (simp only [List.append_eq, List.cons_append, List.nil_append]))
    all_goals first
      | (exfalso; simp [hw0] at *; omega)
      | skip
    · simp only [hw1, Int.toNat_natCast, e2]
      generalize (b.drop q).take n = c at hl e2 ⊢
      refine cp_loopS [8, 10, 28, 29, 30, 31, 32, 33, 34, 35, 36, 37] (fun k : Nat => c.length - k) (fun k => k ≤ c.length) (fun k => [(28, I k), (8, .sc (.int .u64 (beN (c.take k) : Int)))]) (fun _ => []) 0 (Nat.zero_le _) (by exact Gh.W) ?_
      rintro k hk
      simp only [setT, deT, setB, List.set_cons_succ, List.set_cons_zero]
      by_cases hlt : k < c.length
      · have hw : IntKind.i64.wrap ((k : Int) + 1) = ((k + 1 : Nat) : Int) := wrap_i64 (by omega) (by omega)
        have hb1 := beN_lt (c.take k)
        have hb2 : 256 ^ (c.take k).length ≤ 256 ^ 7 := Nat.pow_le_pow_right (by omega) (by simp; omega)
        have ho := or8' (beN (c.take k)) c[k].toNat (by omega) c[k].toNat_lt
        have hsn : beN (c.take (k + 1)) = 256 * beN (c.take k) + c[k].toNat := by rw [List.take_succ_eq_append_getElem hlt, beN_snoc]
        repeat' (first
          | ((first
          | ((with_reducible apply AP.k_any); first
                   | refine AP.S ?_
                   | refine AP.E ?_
                   | (refine AP.Y ?_; dsimp only) | refine AP.G (fun hg => ?_) (fun hg => ?_)
            )
          
          )
            <;> (try simp only [nx, Nat.reduceAdd, Nat.reduceSub, BEq.rfl]))
          | ((with_reducible apply AP.k_nil); first
              | (refine AP.nil (hQ' _ ?_); clear hQ' Q')
              | refine AP.nil ?_)
          | ((with_reducible apply CP.k_reg); refine cp_regG fun Q' hQ' => ?_)
            | (with_reducible apply CP.k_reg1; refine cp_region ?_)
            | ((with_reducible apply CP.k_cond); first | refine cp_condT rfl ?_ | refine cp_condF rfl ?_ | refine cp_cond rfl (fun hc => ?_) (fun hc => ?_))
            | refine CP.go ?_
            | (simp only [List.append_eq, List.cons_append, List.nil_append]))
        · simp only [hw]
          refine ⟨k + 1, by omega, by omega, ?_⟩
          rw [hsn, ← ho]
          exact Gh.W
        · exfalso; simp at *; omega
      · obtain rfl : k = c.length := by omega
        rw [List.take_length]
        repeat' (first
          | ((first
          | ((with_reducible apply AP.k_any); first
                   | refine AP.S ?_
                   | refine AP.E ?_
                   | (refine AP.Y ?_; dsimp only) | refine AP.G (fun hg => ?_) (fun hg => ?_)
            )
          
          )
            <;> (try simp only [nx, Nat.reduceAdd, Nat.reduceSub, BEq.rfl]))
          | ((with_reducible apply AP.k_nil); first
              | (refine AP.nil (hQ' _ ?_); clear hQ' Q')
              | refine AP.nil ?_)
          | ((with_reducible apply CP.k_reg); refine cp_regG fun Q' hQ' => ?_)
            | (with_reducible apply CP.k_reg1; refine cp_region ?_)
            | ((with_reducible apply CP.k_cond); first | refine cp_condT rfl ?_ | refine cp_condF rfl ?_ | refine cp_cond rfl (fun hc => ?_) (fun hc => ?_))
            | refine CP.go ?_
            | (simp only [List.append_eq, List.cons_append, List.nil_append]))
        all_goals first
          | (exfalso; simp at *; done)
          | (exfalso; simp at *; omega)
          | (refine RetQ.B [] ?_; (try dsimp only [resV, List.getD_cons_succ, List.getD_cons_zero]); (exact ⟨rfl, rfl⟩))
end Go.Proofs.Ytnjfchigdpifmaa

namespace Go.Proofs.Ytnjfchigdpifmaa
set_option linter.unusedVariables false
set_option linter.unusedSimpArgs false
set_option maxHeartbeats 8000000
open Go.RowKit
set_option maxRecDepth 100000
abbrev tRd : TypeId := 87
abbrev rB (st : Int × List UInt8) : Bx := .c tRd [B true, bs none st.2, I st.1]
def newR (b : List UInt8) : Int × List UInt8 := if 65536 < b.length then (3, []) else (0, b)
theorem rnew_ac (b : List UInt8) (hb : b.length ≤ 100000000) : AC Try.prog 28 [bs none b] [] (fun v bs' => v = .bp 0 0 0 ∧ bs' = [rB (newR b)]) := by
  by_cases h : 65536 < b.length
  · have e : newR b = (3, []) := by simp [newR, h]
    rw [e]
    refine AC.N Try.func28 Try.ntmps28 ?_
    intro X
    simp only [nx, Nat.reduceAdd, Nat.reduceSub, BEq.rfl]
    repeat' (first
      | ((first
      | ((with_reducible apply AP.k_any); first
               | refine AP.S ?_
        )
      
      )
        <;> (try simp only [nx, Nat.reduceAdd, Nat.reduceSub, BEq.rfl]))
      | ((with_reducible apply AP.k_nil); first
          | (refine AP.nil (hQ' _ ?_); clear hQ' Q')
          | refine AP.nil ?_)
      | ((with_reducible apply CP.k_reg); refine cp_regG fun Q' hQ' => ?_)
        | (with_reducible apply CP.k_reg1; refine cp_region ?_)
        | ((with_reducible apply CP.k_cond); first | refine cp_condT rfl ?_ | refine cp_condF rfl ?_ | refine cp_cond rfl (fun hc => ?_) (fun hc => ?_))
        | refine CP.go ?_
        | (simp only [List.append_eq, List.cons_append, List.nil_append]))
    · (exact RetQ.A [(0, 1)] (by exact ⟨rfl, rfl⟩))
    · exfalso; simp at *; omega
  · have e : newR b = (0, b) := by simp [newR, h]
    have hcat := (wcat_ac [b] (by simp) (by simp; omega)).ro (r2 := bs none b) (by simp [AV.ro, ro_B])
    rw [e]
    refine AC.N Try.func28 Try.ntmps28 ?_
    intro X
    simp only [nx, Nat.reduceAdd, Nat.reduceSub, BEq.rfl]
    repeat' (first
      | ((first
      | ((with_reducible apply AP.k_any); first
               | refine AP.Z ?_
        )
      | ((with_reducible apply AP.k_any); refine AP.C (hcat) ?_)
        | ((with_reducible apply AP.k_any); refine AP.gh (gh_fz (b := 0) (u := 1) rfl rfl (by (repeat' (first | exact FzC.nil | apply FzC.cons | exact FzV.hd | apply FzV.ag | exact FzV.same))) (by (repeat' (first | exact FzB.nil | apply FzB.c | apply FzB.same | exact FzC.nil | apply FzC.cons | exact FzV.hd | apply FzV.ag | exact FzV.same)))) ?_; first | simp only [roE, roC, AV.ro, ro_B, ro_M, ro_E] | simp only [roE, roC, AV.ro, ro_B])
      )
        <;> (try simp only [nx, Nat.reduceAdd, Nat.reduceSub, BEq.rfl]))
      | ((with_reducible apply AP.k_nil); first
          | (refine AP.nil (hQ' _ ?_); clear hQ' Q')
          | refine AP.nil ?_)
      | ((with_reducible apply CP.k_reg); refine cp_regG fun Q' hQ' => ?_)
        | (with_reducible apply CP.k_reg1; refine cp_region ?_)
        | ((with_reducible apply CP.k_cond); first | refine cp_condT rfl ?_ | refine cp_condF rfl ?_ | refine cp_cond rfl (fun hc => ?_) (fun hc => ?_))
        | refine CP.go ?_
        | (simp only [List.append_eq, List.cons_append, List.nil_append]))
    · exfalso; simp at *; omega
    · (exact RetQ.A [(0, 2)] (by exact ⟨rfl, rfl⟩))
theorem fine_ac (st : Int × List UInt8) : AC Try.prog 81 [.bp 0 0 0] [rB st] (fun v bs' => v = B (st.1 == 0) ∧ bs' = [rB st]) := by
  refine AC.N Try.func81 Try.ntmps81 ?_
  intro X
  simp only [nx, Nat.reduceAdd, Nat.reduceSub, BEq.rfl]
  repeat' (first
    | ((first
    | ((with_reducible apply AP.k_any); first
             | refine AP.S ?_
             | (refine AP.Y ?_; dsimp only) | refine AP.G (fun hg => ?_) (fun hg => ?_)
             | (refine AP.V (fun c hnil => ?_); simp only [nz])
      )
    
    )
      <;> (try simp only [nx, Nat.reduceAdd, Nat.reduceSub, BEq.rfl]))
    | ((with_reducible apply AP.k_nil); first
        | (refine AP.nil (hQ' _ ?_); clear hQ' Q')
        | refine AP.nil ?_)
    | ((with_reducible apply CP.k_reg); refine cp_regG fun Q' hQ' => ?_)
      | (with_reducible apply CP.k_reg1; refine cp_region ?_)
      | ((with_reducible apply CP.k_cond); first | refine cp_condT rfl ?_ | refine cp_condF rfl ?_ | refine cp_cond rfl (fun hc => ?_) (fun hc => ?_))
      | refine CP.go ?_
      | (simp only [List.append_eq, List.cons_append, List.nil_append]))
  (exact RetQ.A [(0, 0)] (by exact ⟨rfl, rfl⟩))
theorem rbad_ac (st : Int × List UInt8) : AC Try.prog 82 [.bp 0 0 0] [rB st] (fun v bs' => v = .tu [] ∧ bs' = [rB (40, [])]) := by
  refine AC.N Try.func82 Try.ntmps82 ?_
  intro X
  simp only [nx, Nat.reduceAdd, Nat.reduceSub, BEq.rfl]
  repeat' (first
    | ((first
    | ((with_reducible apply AP.k_any); first
             | refine AP.S ?_
      )
    
    )
      <;> (try simp only [nx, Nat.reduceAdd, Nat.reduceSub, BEq.rfl]))
    | ((with_reducible apply AP.k_nil); first
        | (refine AP.nil (hQ' _ ?_); clear hQ' Q')
        | refine AP.nil ?_)
    | ((with_reducible apply CP.k_reg); refine cp_regG fun Q' hQ' => ?_)
      | (with_reducible apply CP.k_reg1; refine cp_region ?_)
      | ((with_reducible apply CP.k_cond); first | refine cp_condT rfl ?_ | refine cp_condF rfl ?_ | refine cp_cond rfl (fun hc => ?_) (fun hc => ?_))
      | refine CP.go ?_
      | (simp only [List.append_eq, List.cons_append, List.nil_append]))
  (exact RetQ.A [(0, 0)] (by exact ⟨rfl, rfl⟩))
def takeS {α : Type} (z : α) (f : List UInt8 → α × Bool) (n : Int) (st : Int × List UInt8) : α × (Int × List UInt8) :=
  if st.1 ≠ 0 then (z, st) else if n < 0 ∨ (st.2.length : Int) < n then (z, (40, []))
  else if (f (st.2.take n.toNat)).2 = true then ((f (st.2.take n.toNat)).1, (0, st.2.drop n.toNat)) else (z, (40, []))
theorem take_map_drop (b : List UInt8) (n : Nat) (m : Nat) (h : b.length ≤ m) : (List.drop n (b.map eB)).take (m - n) = (b.drop n).map eB := by
  rw [List.map_drop, List.take_of_length_le (by simp; omega)]
theorem take3_ac  (f : Nat) (g : List UInt8 → Int × Bool) (n : Int) (st : Int × List UInt8) (hst : st.2.length ≤ 100000000) (hf : ∀ b : List UInt8, b.length = n.toNat → b.length ≤ st.2.length → AC Try.prog f [bs none b] [] (fun v bs' => v = .tu [I (g b).1, B (g b).2] ∧ bs' = [])) :
    AC Try.prog 55 [.bp 0 0 0, I n, .fn f []] [rB st] (fun v bs' => v = I (takeS (0 : Int) g n st).1 ∧ bs' = [rB (takeS (0 : Int) g n st).2]) := by
  obtain ⟨e, b⟩ := st
  by_cases he : e = 0
  · subst he
    by_cases hn : n < 0 ∨ (b.length : Int) < n
    · have ht : takeS (0 : Int) g n (0, b) = ((0 : Int), (40, [])) := by simp only [takeS, hn]; simp
      rw [ht]
      refine AC.N Try.func55 Try.ntmps55 ?_
      intro X
      simp only [nx, Nat.reduceAdd, Nat.reduceSub, BEq.rfl]
      repeat' (first
        | ((first
        | ((with_reducible apply AP.k_any); first
                 | refine AP.S ?_
                 | (refine AP.Y ?_; dsimp only) | refine AP.G (fun hg => ?_) (fun hg => ?_)
          )
        | ((with_reducible apply AP.k_any); refine AP.CB [(0, 0)] 0 (fine_ac (0, b)) ?_)
            | ((with_reducible apply AP.k_any); refine AP.CB [(0, 0)] 0 (rbad_ac (0, b)) ?_)
        )
          <;> (try simp only [nx, Nat.reduceAdd, Nat.reduceSub, BEq.rfl]))
        | ((with_reducible apply AP.k_nil); first
            | (refine AP.nil (hQ' _ ?_); clear hQ' Q')
            | refine AP.nil ?_)
        | ((with_reducible apply CP.k_reg); refine cp_regG fun Q' hQ' => ?_)
          | (with_reducible apply CP.k_reg1; refine cp_region ?_)
          | ((with_reducible apply CP.k_cond); first | refine cp_condT rfl ?_ | refine cp_condF rfl ?_ | refine cp_cond rfl (fun hc => ?_) (fun hc => ?_))
          | refine CP.go ?_
          | (simp only [List.append_eq, List.cons_append, List.nil_append]))
      all_goals first
        | (exfalso; simp at *; done)
        | (exfalso; simp at *; omega)
        | (exact RetQ.A [(0, 0)] (by exact ⟨rfl, rfl⟩))
    · have hl : (b.take n.toNat).length = n.toNat := by simp; omega
      have hf' := hf (b.take n.toNat) hl (by rw [List.length_take]; exact Nat.min_le_right _ _)
      have htk : List.take (b.length - n.toNat) (List.drop n.toNat b) = List.drop n.toNat b := List.take_of_length_le (by simp)
      have hn0 : 0 ≤ n := by omega
      have hn1 : n ≤ (b.length : Int) := by omega
      have hm : n ≤ ((b.map eB).length : Int) := by simp; omega
      have ht : takeS (0 : Int) g n (0, b) = if (g (b.take n.toNat)).2 = true then ((g (b.take n.toNat)).1, (0, b.drop n.toNat)) else ((0 : Int), (40, [])) := by simp only [takeS, hn]; simp
      rw [ht]
      cases hg2 : (g (b.take n.toNat)).2 with
      | true =>
        rw [hg2] at hf'
        simp only [if_true]
        refine AC.N Try.func55 Try.ntmps55 ?_
        intro X
        simp only [nx, Nat.reduceAdd, Nat.reduceSub, BEq.rfl]
        repeat' (first
          | ((first
          | ((with_reducible apply AP.k_any); first
                   | refine AP.S ?_
                   | (refine AP.Y ?_; dsimp only) | refine AP.G (fun hg => ?_) (fun hg => ?_)
            )
          | ((with_reducible apply AP.k_any); refine AP.CB [(0, 0)] 0 (fine_ac (0, b)) ?_)
                | ((with_reducible apply AP.k_any); refine ap_callX rfl rfl (fn := f) rfl hf' (by (repeat' (first | exact PasC.nil | apply PasC.nil | apply PasC.cons | apply PasV.leaf rfl | apply PasV.nl | apply PasV.bp rfl | apply PasV.lend rfl rfl rfl | apply PasV.lend rfl rfl (ro_B _) | apply PasV.lend rfl rfl (ro_M _) | apply PasV.lend rfl rfl (ro_E _ _) | apply PasV.lend rfl rfl (ro_I _) | apply PasV.mv rfl | apply PasV.ag | apply PasV.fn | exact PasV.fs | apply PasV.any))) rfl rfl ?_)
                | ((with_reducible apply AP.k_any); refine AP.CB [(0, 0)] 0 (rbad_ac (0, b)) ?_)
          )
            <;> (try simp only [nx, Nat.reduceAdd, Nat.reduceSub, BEq.rfl]))
          | ((with_reducible apply AP.k_nil); first
              | (refine AP.nil (hQ' _ ?_); clear hQ' Q')
              | refine AP.nil ?_)
          | ((with_reducible apply CP.k_reg); refine cp_regG fun Q' hQ' => ?_)
            | (with_reducible apply CP.k_reg1; refine cp_region ?_)
            | ((with_reducible apply CP.k_cond); first | refine cp_condT rfl ?_ | refine cp_condF rfl ?_ | refine cp_cond rfl (fun hc => ?_) (fun hc => ?_))
            | refine CP.go ?_
            | (simp only [List.append_eq, List.cons_append, List.nil_append]))
        all_goals first
          | (exfalso; simp at *; done)
          | (exfalso; simp at *; omega)
          | (simp only [htk]
             (exact RetQ.A [(0, 0)] (by exact ⟨rfl, rfl⟩)))
      | false =>
        rw [hg2] at hf'
        simp only [Bool.false_eq_true, if_false]
        refine AC.N Try.func55 Try.ntmps55 ?_
        intro X
        simp only [nx, Nat.reduceAdd, Nat.reduceSub, BEq.rfl]
        repeat' (first
          | ((first
          | ((with_reducible apply AP.k_any); first
                   | refine AP.S ?_
                   | (refine AP.Y ?_; dsimp only) | refine AP.G (fun hg => ?_) (fun hg => ?_)
            )
          | ((with_reducible apply AP.k_any); refine AP.CB [(0, 0)] 0 (fine_ac (0, b)) ?_)
                | ((with_reducible apply AP.k_any); refine ap_callX rfl rfl (fn := f) rfl hf' (by (repeat' (first | exact PasC.nil | apply PasC.nil | apply PasC.cons | apply PasV.leaf rfl | apply PasV.nl | apply PasV.bp rfl | apply PasV.lend rfl rfl rfl | apply PasV.lend rfl rfl (ro_B _) | apply PasV.lend rfl rfl (ro_M _) | apply PasV.lend rfl rfl (ro_E _ _) | apply PasV.lend rfl rfl (ro_I _) | apply PasV.mv rfl | apply PasV.ag | apply PasV.fn | exact PasV.fs | apply PasV.any))) rfl rfl ?_)
                | ((with_reducible apply AP.k_any); refine AP.CB [(0, 0)] 0 (rbad_ac (0, b)) ?_)
          )
            <;> (try simp only [nx, Nat.reduceAdd, Nat.reduceSub, BEq.rfl]))
          | ((with_reducible apply AP.k_nil); first
              | (refine AP.nil (hQ' _ ?_); clear hQ' Q')
              | refine AP.nil ?_)
          | ((with_reducible apply CP.k_reg); refine cp_regG fun Q' hQ' => ?_)
            | (with_reducible apply CP.k_reg1; refine cp_region ?_)
            | ((with_reducible apply CP.k_cond); first | refine cp_condT rfl ?_ | refine cp_condF rfl ?_ | refine cp_cond rfl (fun hc => ?_) (fun hc => ?_))
            | refine CP.go ?_
            | (simp only [List.append_eq, List.cons_append, List.nil_append]))
        all_goals first
          | (exfalso; simp at *; done)
          | (exfalso; simp at *; omega)
          | (exact RetQ.A [(0, 0)] (by exact ⟨rfl, rfl⟩))
  · have ht : takeS (0 : Int) g n (e, b) = ((0 : Int), (e, b)) := by simp [takeS, he]
    have hb : ((e : Int) == 0) = false := by simp [he]
    rw [ht]
    refine AC.N Try.func55 Try.ntmps55 ?_
    intro X
    simp only [nx, Nat.reduceAdd, Nat.reduceSub, BEq.rfl]
    repeat' (first
      | ((first
      | ((with_reducible apply AP.k_any); first
               | refine AP.S ?_
               | (refine AP.Y ?_; dsimp only) | refine AP.G (fun hg => ?_) (fun hg => ?_)
        )
      | ((with_reducible apply AP.k_any); refine AP.CB [(0, 0)] 0 (fine_ac (e, b)) ?_)
      )
        <;> (try simp only [nx, Nat.reduceAdd, Nat.reduceSub, BEq.rfl]))
      | ((with_reducible apply AP.k_nil); first
          | (refine AP.nil (hQ' _ ?_); clear hQ' Q')
          | refine AP.nil ?_)
      | ((with_reducible apply CP.k_reg); refine cp_regG fun Q' hQ' => ?_)
        | (with_reducible apply CP.k_reg1; refine cp_region ?_)
        | ((with_reducible apply CP.k_cond); first | refine cp_condT rfl ?_ | refine cp_condF rfl ?_ | refine cp_cond rfl (fun hc => ?_) (fun hc => ?_))
        | refine CP.go ?_
        | (simp only [List.append_eq, List.cons_append, List.nil_append]))
    all_goals first
      | (exfalso; simp at *; done)
      | (exfalso; simp at *; omega)
      | (exact RetQ.A [(0, 0)] (by exact ⟨rfl, rfl⟩))
theorem take4_ac  (f : Nat) (g : List UInt8 → List UInt8 × Bool) (n : Int) (st : Int × List UInt8) (hst : st.2.length ≤ 100000000) (hf : ∀ b : List UInt8, b.length = n.toNat → b.length ≤ st.2.length → AC Try.prog f [bs none b] [] (fun v bs' => v = .tu [bs none (g b).1, B (g b).2] ∧ bs' = [])) :
    AC Try.prog 60 [.bp 0 0 0, I n, .fn f []] [rB st] (fun v bs' => v = bs none (takeS ([] : List UInt8) g n st).1 ∧ bs' = [rB (takeS ([] : List UInt8) g n st).2]) := by
  obtain ⟨e, b⟩ := st
  by_cases he : e = 0
  · subst he
    by_cases hn : n < 0 ∨ (b.length : Int) < n
    · have ht : takeS ([] : List UInt8) g n (0, b) = (([] : List UInt8), (40, [])) := by simp only [takeS, hn]; simp
      rw [ht]
      refine AC.N Try.func60 Try.ntmps60 ?_
      intro X
      simp only [nx, Nat.reduceAdd, Nat.reduceSub, BEq.rfl]
      repeat' (first
        | ((first
        | ((with_reducible apply AP.k_any); first
                 | refine AP.S ?_
                 | (refine AP.Y ?_; dsimp only) | refine AP.G (fun hg => ?_) (fun hg => ?_)
          )
        | ((with_reducible apply AP.k_any); refine AP.CB [(0, 0)] 0 (fine_ac (0, b)) ?_)
            | ((with_reducible apply AP.k_any); refine AP.CB [(0, 0)] 0 (rbad_ac (0, b)) ?_)
        )
          <;> (try simp only [nx, Nat.reduceAdd, Nat.reduceSub, BEq.rfl]))
        | ((with_reducible apply AP.k_nil); first
            | (refine AP.nil (hQ' _ ?_); clear hQ' Q')
            | refine AP.nil ?_)
        | ((with_reducible apply CP.k_reg); refine cp_regG fun Q' hQ' => ?_)
          | (with_reducible apply CP.k_reg1; refine cp_region ?_)
          | ((with_reducible apply CP.k_cond); first | refine cp_condT rfl ?_ | refine cp_condF rfl ?_ | refine cp_cond rfl (fun hc => ?_) (fun hc => ?_))
          | refine CP.go ?_
          | (simp only [List.append_eq, List.cons_append, List.nil_append]))
      all_goals first
        | (exfalso; simp at *; done)
        | (exfalso; simp at *; omega)
        | (exact RetQ.A [(0, 0)] (by exact ⟨rfl, rfl⟩))
    · have hl : (b.take n.toNat).length = n.toNat := by simp; omega
      have hf' := hf (b.take n.toNat) hl (by rw [List.length_take]; exact Nat.min_le_right _ _)
      have htk : List.take (b.length - n.toNat) (List.drop n.toNat b) = List.drop n.toNat b := List.take_of_length_le (by simp)
      have hn0 : 0 ≤ n := by omega
      have hn1 : n ≤ (b.length : Int) := by omega
      have hm : n ≤ ((b.map eB).length : Int) := by simp; omega
      have ht : takeS ([] : List UInt8) g n (0, b) = if (g (b.take n.toNat)).2 = true then ((g (b.take n.toNat)).1, (0, b.drop n.toNat)) else (([] : List UInt8), (40, [])) := by simp only [takeS, hn]; simp
      rw [ht]
      cases hg2 : (g (b.take n.toNat)).2 with
      | true =>
        rw [hg2] at hf'
        simp only [if_true]
        refine AC.N Try.func60 Try.ntmps60 ?_
        intro X
        simp only [nx, Nat.reduceAdd, Nat.reduceSub, BEq.rfl]
        repeat' (first
          | ((first
          | ((with_reducible apply AP.k_any); first
                   | refine AP.S ?_
                   | (refine AP.Y ?_; dsimp only) | refine AP.G (fun hg => ?_) (fun hg => ?_)
            )
          | ((with_reducible apply AP.k_any); refine AP.CB [(0, 0)] 0 (fine_ac (0, b)) ?_)
                | ((with_reducible apply AP.k_any); refine ap_callX rfl rfl (fn := f) rfl hf' (by (repeat' (first | exact PasC.nil | apply PasC.nil | apply PasC.cons | apply PasV.leaf rfl | apply PasV.nl | apply PasV.bp rfl | apply PasV.lend rfl rfl rfl | apply PasV.lend rfl rfl (ro_B _) | apply PasV.lend rfl rfl (ro_M _) | apply PasV.lend rfl rfl (ro_E _ _) | apply PasV.lend rfl rfl (ro_I _) | apply PasV.mv rfl | apply PasV.ag | apply PasV.fn | exact PasV.fs | apply PasV.any))) rfl rfl ?_)
                | ((with_reducible apply AP.k_any); refine AP.CB [(0, 0)] 0 (rbad_ac (0, b)) ?_)
          )
            <;> (try simp only [nx, Nat.reduceAdd, Nat.reduceSub, BEq.rfl]))
          | ((with_reducible apply AP.k_nil); first
              | (refine AP.nil (hQ' _ ?_); clear hQ' Q')
              | refine AP.nil ?_)
          | ((with_reducible apply CP.k_reg); refine cp_regG fun Q' hQ' => ?_)
            | (with_reducible apply CP.k_reg1; refine cp_region ?_)
            | ((with_reducible apply CP.k_cond); first | refine cp_condT rfl ?_ | refine cp_condF rfl ?_ | refine cp_cond rfl (fun hc => ?_) (fun hc => ?_))
            | refine CP.go ?_
            | (simp only [List.append_eq, List.cons_append, List.nil_append]))
        all_goals first
          | (exfalso; simp at *; done)
          | (exfalso; simp at *; omega)
          | (simp only [htk]
             (exact RetQ.A [(0, 0)] (by exact ⟨rfl, rfl⟩)))
      | false =>
        rw [hg2] at hf'
        simp only [Bool.false_eq_true, if_false]
        refine AC.N Try.func60 Try.ntmps60 ?_
        intro X
        simp only [nx, Nat.reduceAdd, Nat.reduceSub, BEq.rfl]
        repeat' (first
          | ((first
          | ((with_reducible apply AP.k_any); first
                   | refine AP.S ?_
                   | (refine AP.Y ?_; dsimp only) | refine AP.G (fun hg => ?_) (fun hg => ?_)
            )
          | ((with_reducible apply AP.k_any); refine AP.CB [(0, 0)] 0 (fine_ac (0, b)) ?_)
                | ((with_reducible apply AP.k_any); refine ap_callX rfl rfl (fn := f) rfl hf' (by (repeat' (first | exact PasC.nil | apply PasC.nil | apply PasC.cons | apply PasV.leaf rfl | apply PasV.nl | apply PasV.bp rfl | apply PasV.lend rfl rfl rfl | apply PasV.lend rfl rfl (ro_B _) | apply PasV.lend rfl rfl (ro_M _) | apply PasV.lend rfl rfl (ro_E _ _) | apply PasV.lend rfl rfl (ro_I _) | apply PasV.mv rfl | apply PasV.ag | apply PasV.fn | exact PasV.fs | apply PasV.any))) rfl rfl ?_)
                | ((with_reducible apply AP.k_any); refine AP.CB [(0, 0)] 0 (rbad_ac (0, b)) ?_)
          )
            <;> (try simp only [nx, Nat.reduceAdd, Nat.reduceSub, BEq.rfl]))
          | ((with_reducible apply AP.k_nil); first
              | (refine AP.nil (hQ' _ ?_); clear hQ' Q')
              | refine AP.nil ?_)
          | ((with_reducible apply CP.k_reg); refine cp_regG fun Q' hQ' => ?_)
            | (with_reducible apply CP.k_reg1; refine cp_region ?_)
            | ((with_reducible apply CP.k_cond); first | refine cp_condT rfl ?_ | refine cp_condF rfl ?_ | refine cp_cond rfl (fun hc => ?_) (fun hc => ?_))
            | refine CP.go ?_
            | (simp only [List.append_eq, List.cons_append, List.nil_append]))
        all_goals first
          | (exfalso; simp at *; done)
          | (exfalso; simp at *; omega)
          | (exact RetQ.A [(0, 0)] (by exact ⟨rfl, rfl⟩))
  · have ht : takeS ([] : List UInt8) g n (e, b) = (([] : List UInt8), (e, b)) := by simp [takeS, he]
    have hb : ((e : Int) == 0) = false := by simp [he]
    rw [ht]
    refine AC.N Try.func60 Try.ntmps60 ?_
    intro X
    simp only [nx, Nat.reduceAdd, Nat.reduceSub, BEq.rfl]
    repeat' (first
      | ((first
      | ((with_reducible apply AP.k_any); first
               | refine AP.S ?_
               | (refine AP.Y ?_; dsimp only) | refine AP.G (fun hg => ?_) (fun hg => ?_)
        )
      | ((with_reducible apply AP.k_any); refine AP.CB [(0, 0)] 0 (fine_ac (e, b)) ?_)
      )
        <;> (try simp only [nx, Nat.reduceAdd, Nat.reduceSub, BEq.rfl]))
      | ((with_reducible apply AP.k_nil); first
          | (refine AP.nil (hQ' _ ?_); clear hQ' Q')
          | refine AP.nil ?_)
      | ((with_reducible apply CP.k_reg); refine cp_regG fun Q' hQ' => ?_)
        | (with_reducible apply CP.k_reg1; refine cp_region ?_)
        | ((with_reducible apply CP.k_cond); first | refine cp_condT rfl ?_ | refine cp_condF rfl ?_ | refine cp_cond rfl (fun hc => ?_) (fun hc => ?_))
        | refine CP.go ?_
        | (simp only [List.append_eq, List.cons_append, List.nil_append]))
    all_goals first
      | (exfalso; simp at *; done)
      | (exfalso; simp at *; omega)
      | (exact RetQ.A [(0, 0)] (by exact ⟨rfl, rfl⟩))
abbrev iB (x : Int) : Bx := .c 3 [I x]
theorem take5_ac (m l : Int) (f : Nat) (g : List UInt8 → Int × Bool) (n : Int) (st : Int × List UInt8) (hst : st.2.length ≤ 100000000) (hf : ∀ b : List UInt8, b.length = n.toNat → b.length ≤ st.2.length → AC Try.prog f [bs none b, .bp 0 0 0, .bp 1 0 0] [iB m, iB l] (fun v bs' => v = .tu [I (g b).1, B (g b).2] ∧ bs' = [iB m, iB l])) :
    AC Try.prog 55 [.bp 0 0 0, I n, .fn f [.bp 1 0 0, .bp 2 0 0]] [rB st, iB m, iB l] (fun v bs' => v = I (takeS (0 : Int) g n st).1 ∧ bs' = [rB (takeS (0 : Int) g n st).2, iB m, iB l]) := by
  obtain ⟨e, b⟩ := st
  by_cases he : e = 0
  · subst he
    by_cases hn : n < 0 ∨ (b.length : Int) < n
    · have ht : takeS (0 : Int) g n (0, b) = ((0 : Int), (40, [])) := by simp only [takeS, hn]; simp
      rw [ht]
      refine AC.N Try.func55 Try.ntmps55 ?_
      intro X
      simp only [nx, Nat.reduceAdd, Nat.reduceSub, BEq.rfl]
      repeat' (first
        | ((first
        | ((with_reducible apply AP.k_any); first
                 | refine AP.S ?_
                 | (refine AP.Y ?_; dsimp only) | refine AP.G (fun hg => ?_) (fun hg => ?_)
          )
        | ((with_reducible apply AP.k_any); refine AP.CB [(0, 0)] 0 (fine_ac (0, b)) ?_)
            | ((with_reducible apply AP.k_any); refine AP.CB [(0, 0)] 0 (rbad_ac (0, b)) ?_)
        )
          <;> (try simp only [nx, Nat.reduceAdd, Nat.reduceSub, BEq.rfl]))
        | ((with_reducible apply AP.k_nil); first
            | (refine AP.nil (hQ' _ ?_); clear hQ' Q')
            | refine AP.nil ?_)
        | ((with_reducible apply CP.k_reg); refine cp_regG fun Q' hQ' => ?_)
          | (with_reducible apply CP.k_reg1; refine cp_region ?_)
          | ((with_reducible apply CP.k_cond); first | refine cp_condT rfl ?_ | refine cp_condF rfl ?_ | refine cp_cond rfl (fun hc => ?_) (fun hc => ?_))
          | refine CP.go ?_
          | (simp only [List.append_eq, List.cons_append, List.nil_append]))
      all_goals first
        | (exfalso; simp at *; done)
        | (exfalso; simp at *; omega)
        | (exact RetQ.A [(0, 0), (1, 0), (2, 0)] (by exact ⟨rfl, rfl⟩))
    · have hl : (b.take n.toNat).length = n.toNat := by simp; omega
      have hf' := hf (b.take n.toNat) hl (by rw [List.length_take]; exact Nat.min_le_right _ _)
      have htk : List.take (b.length - n.toNat) (List.drop n.toNat b) = List.drop n.toNat b := List.take_of_length_le (by simp)
      have hn0 : 0 ≤ n := by omega
      have hn1 : n ≤ (b.length : Int) := by omega
      have hm : n ≤ ((b.map eB).length : Int) := by simp; omega
      have ht : takeS (0 : Int) g n (0, b) = if (g (b.take n.toNat)).2 = true then ((g (b.take n.toNat)).1, (0, b.drop n.toNat)) else ((0 : Int), (40, [])) := by simp only [takeS, hn]; simp
      rw [ht]
      cases hg2 : (g (b.take n.toNat)).2 with
      | true =>
        rw [hg2] at hf'
        simp only [if_true]
        refine AC.N Try.func55 Try.ntmps55 ?_
        intro X
        simp only [nx, Nat.reduceAdd, Nat.reduceSub, BEq.rfl]
        repeat' (first
          | ((first
          | ((with_reducible apply AP.k_any); first
                   | refine AP.S ?_
                   | (refine AP.Y ?_; dsimp only) | refine AP.G (fun hg => ?_) (fun hg => ?_)
            )
          | ((with_reducible apply AP.k_any); refine AP.CB [(0, 0)] 0 (fine_ac (0, b)) ?_)
                | ((with_reducible apply AP.k_any); refine ap_callB 0 [(1, 0), (2, 0)] rfl rfl (fn := f) rfl hf' (by (repeat' (first | exact PasC.nil | apply PasC.nil | apply PasC.cons | apply PasV.leaf rfl | apply PasV.nl | apply PasV.bp rfl | apply PasV.lend rfl rfl rfl | apply PasV.lend rfl rfl (ro_B _) | apply PasV.lend rfl rfl (ro_M _) | apply PasV.lend rfl rfl (ro_E _ _) | apply PasV.lend rfl rfl (ro_I _) | apply PasV.mv rfl | apply PasV.ag | apply PasV.fn | exact PasV.fs | apply PasV.any))) (by (repeat' (first | exact Out.nil | apply Out.cons rfl | exact ClsC.nil | apply ClsC.nl | apply ClsC.leaf rfl | apply ClsC.hd rfl | apply ClsC.fn | apply ClsC.fz rfl (ro_B _) | apply ClsC.fz rfl (ro_M _) | apply ClsC.fz rfl (ro_E _ _) | apply ClsC.fz rfl rfl))) rfl (by (repeat' (first | exact Bk.nil | apply Bk.cons rfl rfl rfl))) (by (repeat' (first | exact RnV.leaf rfl | exact RnC.nil | apply RnC.cons | apply RnV.ag | apply RnV.tu | exact RnV.bp rfl))) rfl ?_)
                | ((with_reducible apply AP.k_any); refine AP.CB [(0, 0)] 0 (rbad_ac (0, b)) ?_)
          )
            <;> (try simp only [nx, Nat.reduceAdd, Nat.reduceSub, BEq.rfl]))
          | ((with_reducible apply AP.k_nil); first
              | (refine AP.nil (hQ' _ ?_); clear hQ' Q')
              | refine AP.nil ?_)
          | ((with_reducible apply CP.k_reg); refine cp_regG fun Q' hQ' => ?_)
            | (with_reducible apply CP.k_reg1; refine cp_region ?_)
            | ((with_reducible apply CP.k_cond); first | refine cp_condT rfl ?_ | refine cp_condF rfl ?_ | refine cp_cond rfl (fun hc => ?_) (fun hc => ?_))
            | refine CP.go ?_
            | (simp only [List.append_eq, List.cons_append, List.nil_append]))
        all_goals first
          | (exfalso; simp at *; done)
          | (exfalso; simp at *; omega)
          | (simp only [htk]
             (exact RetQ.A [(0, 0), (1, 0), (2, 0)] (by exact ⟨rfl, rfl⟩)))
      | false =>
        rw [hg2] at hf'
        simp only [Bool.false_eq_true, if_false]
        refine AC.N Try.func55 Try.ntmps55 ?_
        intro X
        simp only [nx, Nat.reduceAdd, Nat.reduceSub, BEq.rfl]
        repeat' (first
          | ((first
          | ((with_reducible apply AP.k_any); first
                   | refine AP.S ?_
                   | (refine AP.Y ?_; dsimp only) | refine AP.G (fun hg => ?_) (fun hg => ?_)
            )
          | ((with_reducible apply AP.k_any); refine AP.CB [(0, 0)] 0 (fine_ac (0, b)) ?_)
                | ((with_reducible apply AP.k_any); refine ap_callB 0 [(1, 0), (2, 0)] rfl rfl (fn := f) rfl hf' (by (repeat' (first | exact PasC.nil | apply PasC.nil | apply PasC.cons | apply PasV.leaf rfl | apply PasV.nl | apply PasV.bp rfl | apply PasV.lend rfl rfl rfl | apply PasV.lend rfl rfl (ro_B _) | apply PasV.lend rfl rfl (ro_M _) | apply PasV.lend rfl rfl (ro_E _ _) | apply PasV.lend rfl rfl (ro_I _) | apply PasV.mv rfl | apply PasV.ag | apply PasV.fn | exact PasV.fs | apply PasV.any))) (by (repeat' (first | exact Out.nil | apply Out.cons rfl | exact ClsC.nil | apply ClsC.nl | apply ClsC.leaf rfl | apply ClsC.hd rfl | apply ClsC.fn | apply ClsC.fz rfl (ro_B _) | apply ClsC.fz rfl (ro_M _) | apply ClsC.fz rfl (ro_E _ _) | apply ClsC.fz rfl rfl))) rfl (by (repeat' (first | exact Bk.nil | apply Bk.cons rfl rfl rfl))) (by (repeat' (first | exact RnV.leaf rfl | exact RnC.nil | apply RnC.cons | apply RnV.ag | apply RnV.tu | exact RnV.bp rfl))) rfl ?_)
                | ((with_reducible apply AP.k_any); refine AP.CB [(0, 0)] 0 (rbad_ac (0, b)) ?_)
          )
            <;> (try simp only [nx, Nat.reduceAdd, Nat.reduceSub, BEq.rfl]))
          | ((with_reducible apply AP.k_nil); first
              | (refine AP.nil (hQ' _ ?_); clear hQ' Q')
              | refine AP.nil ?_)
          | ((with_reducible apply CP.k_reg); refine cp_regG fun Q' hQ' => ?_)
            | (with_reducible apply CP.k_reg1; refine cp_region ?_)
            | ((with_reducible apply CP.k_cond); first | refine cp_condT rfl ?_ | refine cp_condF rfl ?_ | refine cp_cond rfl (fun hc => ?_) (fun hc => ?_))
            | refine CP.go ?_
            | (simp only [List.append_eq, List.cons_append, List.nil_append]))
        all_goals first
          | (exfalso; simp at *; done)
          | (exfalso; simp at *; omega)
          | (exact RetQ.A [(0, 0), (1, 0), (2, 0)] (by exact ⟨rfl, rfl⟩))
  · have ht : takeS (0 : Int) g n (e, b) = ((0 : Int), (e, b)) := by simp [takeS, he]
    have hb : ((e : Int) == 0) = false := by simp [he]
    rw [ht]
    refine AC.N Try.func55 Try.ntmps55 ?_
    intro X
    simp only [nx, Nat.reduceAdd, Nat.reduceSub, BEq.rfl]
    repeat' (first
      | ((first
      | ((with_reducible apply AP.k_any); first
               | refine AP.S ?_
               | (refine AP.Y ?_; dsimp only) | refine AP.G (fun hg => ?_) (fun hg => ?_)
        )
      | ((with_reducible apply AP.k_any); refine AP.CB [(0, 0)] 0 (fine_ac (e, b)) ?_)
      )
        <;> (try simp only [nx, Nat.reduceAdd, Nat.reduceSub, BEq.rfl]))
      | ((with_reducible apply AP.k_nil); first
          | (refine AP.nil (hQ' _ ?_); clear hQ' Q')
          | refine AP.nil ?_)
      | ((with_reducible apply CP.k_reg); refine cp_regG fun Q' hQ' => ?_)
        | (with_reducible apply CP.k_reg1; refine cp_region ?_)
        | ((with_reducible apply CP.k_cond); first | refine cp_condT rfl ?_ | refine cp_condF rfl ?_ | refine cp_cond rfl (fun hc => ?_) (fun hc => ?_))
        | refine CP.go ?_
        | (simp only [List.append_eq, List.cons_append, List.nil_append]))
    all_goals first
      | (exfalso; simp at *; done)
      | (exfalso; simp at *; omega)
      | (exact RetQ.A [(0, 0), (1, 0), (2, 0)] (by exact ⟨rfl, rfl⟩))
end Go.Proofs.Ytnjfchigdpifmaa

namespace Go.Proofs.Ytnjfchigdpifmaa
set_option linter.unusedVariables false
set_option linter.unusedSimpArgs false
set_option maxHeartbeats 8000000
open Go.RowKit
set_option maxRecDepth 100000
theorem load64_ac (b : List UInt8) (hb : b.length ≤ 100000000) : AC Try.prog 57 [bs none b, I 0] [] (fun v bs' => v = .tu [.sc (.int .u64 ((loadS b 0 8).1 : Int)), B (loadS b 0 8).2] ∧ bs' = []) := by
  have h := load_ac b 0 8 (by omega) hb (by omega) (by omega)
  refine AC.N Try.func57 Try.ntmps57 ?_
  intro X
  simp only [nx, Nat.reduceAdd, Nat.reduceSub, BEq.rfl]
  repeat' (first
    | ((first
    | ((with_reducible apply AP.k_any); first
             | refine AP.S ?_
      )
    | ((with_reducible apply AP.k_any); refine AP.C (h) ?_)
    )
      <;> (try simp only [nx, Nat.reduceAdd, Nat.reduceSub, BEq.rfl]))
    | ((with_reducible apply AP.k_nil); first
        | (refine AP.nil (hQ' _ ?_); clear hQ' Q')
        | refine AP.nil ?_)
    | ((with_reducible apply CP.k_reg); refine cp_regG fun Q' hQ' => ?_)
      | (with_reducible apply CP.k_reg1; refine cp_region ?_)
      | ((with_reducible apply CP.k_cond); first | refine cp_condT rfl ?_ | refine cp_condF rfl ?_ | refine cp_cond rfl (fun hc => ?_) (fun hc => ?_))
      | refine CP.go ?_
      | (simp only [List.append_eq, List.cons_append, List.nil_append]))
  (refine RetQ.B [] ?_; (try dsimp only [resV, List.getD_cons_succ, List.getD_cons_zero]); (exact ⟨rfl, rfl⟩))
theorem load32_ac (b : List UInt8) (hb : b.length ≤ 100000000) : AC Try.prog 59 [bs none b, I 0] [] (fun v bs' => v = .tu [.sc (.int .u32 ((loadS b 0 4).1 : Int)), B (loadS b 0 4).2] ∧ bs' = []) := by
  have h := load_ac b 0 4 (by omega) hb (by omega) (by omega)
  have hw : IntKind.u32.wrap ((loadS b 0 4).1 : Int) = ((loadS b 0 4).1 : Int) := by
    have h1 : (loadS b 0 4).1 < 4294967296 := by
      unfold loadS
      split
      · simp
      · have := beN_lt ((b.drop (0 : Int).toNat).take 4)
        have h2 : 256 ^ ((b.drop (0 : Int).toNat).take 4).length ≤ 256 ^ 4 := Nat.pow_le_pow_right (by omega) (by simp; omega)
        simp at this h2 ⊢
        omega
    simp [IntKind.wrap, IntKind.bits, IntKind.signed]; omega
  refine AC.N Try.func59 Try.ntmps59 ?_
  intro X
  simp only [nx, Nat.reduceAdd, Nat.reduceSub, BEq.rfl]
  repeat' (first
    | ((first
    | ((with_reducible apply AP.k_any); first
             | refine AP.S ?_
      )
    | ((with_reducible apply AP.k_any); refine AP.C (h) ?_)
    )
      <;> (try simp only [nx, Nat.reduceAdd, Nat.reduceSub, BEq.rfl]))
    | ((with_reducible apply AP.k_nil); first
        | (refine AP.nil (hQ' _ ?_); clear hQ' Q')
        | refine AP.nil ?_)
    | ((with_reducible apply CP.k_reg); refine cp_regG fun Q' hQ' => ?_)
      | (with_reducible apply CP.k_reg1; refine cp_region ?_)
      | ((with_reducible apply CP.k_cond); first | refine cp_condT rfl ?_ | refine cp_condF rfl ?_ | refine cp_cond rfl (fun hc => ?_) (fun hc => ?_))
      | refine CP.go ?_
      | (simp only [List.append_eq, List.cons_append, List.nil_append]))
  simp only [hw]
  (refine RetQ.B [] ?_; (try dsimp only [resV, List.getD_cons_succ, List.getD_cons_zero]); (exact ⟨rfl, rfl⟩))
theorem loadS_all {b : List UInt8} {n : Nat} (h : b.length = n) : loadS b 0 n = (beN b, true) := by
  have h1 : ¬ ((0 : Int) < 0 ∨ (b.length : Int) - n < 0) := by omega
  simp only [loadS, if_neg h1]
  simp [← h]
def toI (n : Nat) : Int := IntKind.i64.wrap n
def byteG (b : List UInt8) : UInt8 × Bool := (b.headD 0, true)
def intG (b : List UInt8) : Int × Bool := (toI (beN b), true)
def flagG (b : List UInt8) : Bool × Bool := (b.headD 0 == 1, decide (b.headD 0 ≤ 1))
def lenG (b : List UInt8) : Int × Bool := (beN b, decide (beN b ≤ 65536))
def bytesG (b : List UInt8) : List UInt8 × Bool := (b, true)
def countG (m l : Int) (b : List UInt8) : Int × Bool := (toI (beN b), decide (0 ≤ toI (beN b)) && decide (toI (beN b) ≤ m) && decide (toI (beN b) ≤ l))
theorem len1 {b : List UInt8} (h : b.length = 1) : ∃ x, b = [x] := by
  match b, h with
  | [x], _ => exact ⟨x, rfl⟩
theorem rint1_ac (b : List UInt8) (h : b.length = 8) : AC Try.prog 56 [bs none b] [] (fun v bs' => v = .tu [I (intG b).1, B (intG b).2] ∧ bs' = []) := by
  have hl := load64_ac b (by omega)
  rw [loadS_all h] at hl
  refine AC.N Try.func56 Try.ntmps56 ?_
  intro X
  simp only [nx, Nat.reduceAdd, Nat.reduceSub, BEq.rfl]
  repeat' (first
    | ((first
    | ((with_reducible apply AP.k_any); first
             | refine AP.S ?_
      )
    | ((with_reducible apply AP.k_any); refine AP.C (hl) ?_)
    )
      <;> (try simp only [nx, Nat.reduceAdd, Nat.reduceSub, BEq.rfl]))
    | ((with_reducible apply AP.k_nil); first
        | (refine AP.nil (hQ' _ ?_); clear hQ' Q')
        | refine AP.nil ?_)
    | ((with_reducible apply CP.k_reg); refine cp_regG fun Q' hQ' => ?_)
      | (with_reducible apply CP.k_reg1; refine cp_region ?_)
      | ((with_reducible apply CP.k_cond); first | refine cp_condT rfl ?_ | refine cp_condF rfl ?_ | refine cp_cond rfl (fun hc => ?_) (fun hc => ?_))
      | refine CP.go ?_
      | (simp only [List.append_eq, List.cons_append, List.nil_append]))
  (refine RetQ.B [] ?_; (try dsimp only [resV, List.getD_cons_succ, List.getD_cons_zero]); (exact ⟨rfl, rfl⟩))
theorem rlen1_ac (b : List UInt8) (h : b.length = 4) : AC Try.prog 58 [bs none b] [] (fun v bs' => v = .tu [I (lenG b).1, B (lenG b).2] ∧ bs' = []) := by
  have hl := load32_ac b (by omega)
  rw [loadS_all h] at hl
  have hb := beN_lt b
  rw [h] at hb
  have hw : IntKind.i64.wrap (beN b : Int) = (beN b : Int) := wrap_i64 (by omega) (by omega)
  refine AC.N Try.func58 Try.ntmps58 ?_
  intro X
  simp only [nx, Nat.reduceAdd, Nat.reduceSub, BEq.rfl]
  repeat' (first
    | ((first
    | ((with_reducible apply AP.k_any); first
             | refine AP.S ?_
      )
    | ((with_reducible apply AP.k_any); refine AP.C (hl) ?_)
    )
      <;> (try simp only [nx, Nat.reduceAdd, Nat.reduceSub, BEq.rfl]))
    | ((with_reducible apply AP.k_nil); first
        | (refine AP.nil (hQ' _ ?_); clear hQ' Q')
        | refine AP.nil ?_)
    | ((with_reducible apply CP.k_reg); refine cp_regG fun Q' hQ' => ?_)
      | (with_reducible apply CP.k_reg1; refine cp_region ?_)
      | ((with_reducible apply CP.k_cond); first | refine cp_condT rfl ?_ | refine cp_condF rfl ?_ | refine cp_cond rfl (fun hc => ?_) (fun hc => ?_))
      | refine CP.go ?_
      | (simp only [List.append_eq, List.cons_append, List.nil_append]))
  simp only [hw]
  (refine RetQ.B [] ?_; (try dsimp only [resV, List.getD_cons_succ, List.getD_cons_zero]); ((refine ⟨?_, rfl⟩; simp [lenG]; try omega)))
theorem rbytes1_ac (b : List UInt8) (h : b.length ≤ 100000000) : AC Try.prog 61 [bs none b] [] (fun v bs' => v = .tu [bs none (bytesG b).1, B (bytesG b).2] ∧ bs' = []) := by
  have hcat := (wcat_ac [b] (by simp) (by simp; omega)).ro (r2 := bs none b) (by simp [AV.ro, ro_B])
  refine AC.N Try.func61 Try.ntmps61 ?_
  intro X
  simp only [nx, Nat.reduceAdd, Nat.reduceSub, BEq.rfl]
  repeat' (first
    | ((first
    | ((with_reducible apply AP.k_any); first
             | refine AP.Z ?_
      )
    | ((with_reducible apply AP.k_any); refine AP.C (hcat) ?_)
    | ((with_reducible apply AP.k_any); refine AP.gh (gh_fz (b := 0) (u := 1) rfl rfl (by (repeat' (first | exact FzC.nil | apply FzC.cons | exact FzV.hd | apply FzV.ag | exact FzV.same))) (by (repeat' (first | exact FzB.nil | apply FzB.c | apply FzB.same | exact FzC.nil | apply FzC.cons | exact FzV.hd | apply FzV.ag | exact FzV.same)))) ?_; first | simp only [roE, roC, AV.ro, ro_B, ro_M, ro_E] | simp only [roE, roC, AV.ro, ro_B])
    )
      <;> (try simp only [nx, Nat.reduceAdd, Nat.reduceSub, BEq.rfl]))
    | ((with_reducible apply AP.k_nil); first
        | (refine AP.nil (hQ' _ ?_); clear hQ' Q')
        | refine AP.nil ?_)
    | ((with_reducible apply CP.k_reg); refine cp_regG fun Q' hQ' => ?_)
      | (with_reducible apply CP.k_reg1; refine cp_region ?_)
      | ((with_reducible apply CP.k_cond); first | refine cp_condT rfl ?_ | refine cp_condF rfl ?_ | refine cp_cond rfl (fun hc => ?_) (fun hc => ?_))
      | refine CP.go ?_
      | (simp only [List.append_eq, List.cons_append, List.nil_append]))
  (refine RetQ.B [] ?_; (try dsimp only [resV, List.getD_cons_succ, List.getD_cons_zero]); (exact ⟨rfl, rfl⟩))
theorem takeS_len {α : Type} {z : α} {f : List UInt8 → α × Bool} {n : Int} {st : Int × List UInt8} {k : Nat} (h : st.2.length ≤ k) : (takeS z f n st).2.2.length ≤ k := by
  unfold takeS
  split
  · exact h
  · split
    · simp
    · split
      · simp; omega
      · simp
def byteR (st : Int × List UInt8) : UInt8 × (Int × List UInt8) := takeS 0 byteG 1 st
def intR (st : Int × List UInt8) : Int × (Int × List UInt8) := takeS 0 intG 8 st
def flagR (st : Int × List UInt8) : Bool × (Int × List UInt8) := takeS false flagG 1 st
def lenR (st : Int × List UInt8) : Int × (Int × List UInt8) := takeS 0 lenG 4 st
def bytesR (st : Int × List UInt8) : List UInt8 × (Int × List UInt8) := takeS [] bytesG (lenR st).1 (lenR st).2
def leftR (st : Int × List UInt8) : Int := if st.1 = 0 then st.2.length else 0
def countR (m : Int) (st : Int × List UInt8) : Int × (Int × List UInt8) := takeS 0 (countG m (leftR st - 8)) 8 st
def endR (st : Int × List UInt8) : Int := if st.1 = 0 then (if st.2 = [] then 0 else 40) else st.1
theorem rint_ac (st : Int × List UInt8) (hst : st.2.length ≤ 100000000) : AC Try.prog 29 [.bp 0 0 0] [rB st] (fun v bs' => v = I (intR st).1 ∧ bs' = [rB (intR st).2]) := by
  have h := take3_ac 56 intG 8 st hst (fun b hb _ => rint1_ac b hb)
  refine AC.N Try.func29 Try.ntmps29 ?_
  intro X
  simp only [nx, Nat.reduceAdd, Nat.reduceSub, BEq.rfl]
  repeat' (first
    | ((first
    | ((with_reducible apply AP.k_any); first
             | refine AP.S ?_
      )
    | ((with_reducible apply AP.k_any); refine AP.CB [(0, 0)] 0 (h) ?_)
    )
      <;> (try simp only [nx, Nat.reduceAdd, Nat.reduceSub, BEq.rfl]))
    | ((with_reducible apply AP.k_nil); first
        | (refine AP.nil (hQ' _ ?_); clear hQ' Q')
        | refine AP.nil ?_)
    | ((with_reducible apply CP.k_reg); refine cp_regG fun Q' hQ' => ?_)
      | (with_reducible apply CP.k_reg1; refine cp_region ?_)
      | ((with_reducible apply CP.k_cond); first | refine cp_condT rfl ?_ | refine cp_condF rfl ?_ | refine cp_cond rfl (fun hc => ?_) (fun hc => ?_))
      | refine CP.go ?_
      | (simp only [List.append_eq, List.cons_append, List.nil_append]))
  (exact RetQ.A [(0, 0)] (by exact ⟨rfl, rfl⟩))
theorem rbytes_ac (st : Int × List UInt8) (hst : st.2.length ≤ 100000000) : AC Try.prog 30 [.bp 0 0 0] [rB st] (fun v bs' => v = bs none (bytesR st).1 ∧ bs' = [rB (bytesR st).2]) := by
  have h := take3_ac 58 lenG 4 st hst (fun b hb _ => rlen1_ac b hb)
  have h2 := take4_ac 61 bytesG (lenR st).1 (lenR st).2 (takeS_len hst) (fun b _ hb => rbytes1_ac b (Nat.le_trans hb (takeS_len hst)))
  refine AC.N Try.func30 Try.ntmps30 ?_
  intro X
  simp only [nx, Nat.reduceAdd, Nat.reduceSub, BEq.rfl]
  repeat' (first
    | ((first
    | ((with_reducible apply AP.k_any); first
             | refine AP.S ?_
      )
    | ((with_reducible apply AP.k_any); refine AP.CB [(0, 0)] 0 (h) ?_)
    | ((with_reducible apply AP.k_any); refine AP.CB [(0, 0)] 0 (h2) ?_)
    )
      <;> (try simp only [nx, Nat.reduceAdd, Nat.reduceSub, BEq.rfl]))
    | ((with_reducible apply AP.k_nil); first
        | (refine AP.nil (hQ' _ ?_); clear hQ' Q')
        | refine AP.nil ?_)
    | ((with_reducible apply CP.k_reg); refine cp_regG fun Q' hQ' => ?_)
      | (with_reducible apply CP.k_reg1; refine cp_region ?_)
      | ((with_reducible apply CP.k_cond); first | refine cp_condT rfl ?_ | refine cp_condF rfl ?_ | refine cp_cond rfl (fun hc => ?_) (fun hc => ?_))
      | refine CP.go ?_
      | (simp only [List.append_eq, List.cons_append, List.nil_append]))
  (exact RetQ.A [(0, 0)] (by exact ⟨rfl, rfl⟩))
theorem rerr_ac (st : Int × List UInt8) : AC Try.prog 64 [.bp 0 0 0] [rB st] (fun v bs' => v = I st.1 ∧ bs' = [rB st]) := by
  refine AC.N Try.func64 Try.ntmps64 ?_
  intro X
  simp only [nx, Nat.reduceAdd, Nat.reduceSub, BEq.rfl]
  repeat' (first
    | ((first
    | ((with_reducible apply AP.k_any); first
             | refine AP.S ?_
             | (refine AP.Y ?_; dsimp only) | refine AP.G (fun hg => ?_) (fun hg => ?_)
             | (refine AP.V (fun c hnil => ?_); simp only [nz])
      )
    
    )
      <;> (try simp only [nx, Nat.reduceAdd, Nat.reduceSub, BEq.rfl]))
    | ((with_reducible apply AP.k_nil); first
        | (refine AP.nil (hQ' _ ?_); clear hQ' Q')
        | refine AP.nil ?_)
    | ((with_reducible apply CP.k_reg); refine cp_regG fun Q' hQ' => ?_)
      | (with_reducible apply CP.k_reg1; refine cp_region ?_)
      | ((with_reducible apply CP.k_cond); first | refine cp_condT rfl ?_ | refine cp_condF rfl ?_ | refine cp_cond rfl (fun hc => ?_) (fun hc => ?_))
      | refine CP.go ?_
      | (simp only [List.append_eq, List.cons_append, List.nil_append]))
  (exact RetQ.A [(0, 0)] (by exact ⟨rfl, rfl⟩))
theorem rend_ac (st : Int × List UInt8) : AC Try.prog 32 [.bp 0 0 0] [rB st] (fun v bs' => v = I (endR st) ∧ bs' = [rB st]) := by
  refine AC.N Try.func32 Try.ntmps32 ?_
  intro X
  simp only [nx, Nat.reduceAdd, Nat.reduceSub, BEq.rfl]
  repeat' (first
    | ((first
    | ((with_reducible apply AP.k_any); first
             | refine AP.S ?_
             | (refine AP.V (fun c hnil => ?_); simp only [nz])
      )
    | ((with_reducible apply AP.k_any); refine AP.CB [(0, 0)] 0 (rerr_ac st) ?_)
    )
      <;> (try simp only [nx, Nat.reduceAdd, Nat.reduceSub, BEq.rfl]))
    | ((with_reducible apply AP.k_nil); first
        | (refine AP.nil (hQ' _ ?_); clear hQ' Q')
        | refine AP.nil ?_)
    | ((with_reducible apply CP.k_reg); refine cp_regG fun Q' hQ' => ?_)
      | (with_reducible apply CP.k_reg1; refine cp_region ?_)
      | ((with_reducible apply CP.k_cond); first | refine cp_condT rfl ?_ | refine cp_condF rfl ?_ | refine cp_cond rfl (fun hc => ?_) (fun hc => ?_))
      | refine CP.go ?_
      | (simp only [List.append_eq, List.cons_append, List.nil_append]))
  all_goals (refine RetQ.B [(0, 0)] ?_; (try dsimp only [resV, List.getD_cons_succ, List.getD_cons_zero]); ((refine ⟨?_, rfl⟩; simp at *; simp [endR, *]; try (intro h; simp [h] at *))))
end Go.Proofs.Ytnjfchigdpifmaa

namespace Go.Proofs.Ytnjfchigdpifmaa
set_option linter.unusedVariables false
set_option linter.unusedSimpArgs false
set_option maxHeartbeats 8000000
open Go.RowKit
set_option maxRecDepth 100000
theorem putS_take (x : Nat) : ∀ (n i : Nat), i < n → (putS x n).take (i + 1) = (putS x n).take i ++ [UInt8.ofNat (x / 256 ^ (n - 1 - i) % 256)]
  | n + 1, 0, _ => by simp [putS]
  | n + 1, i + 1, h => by
    have := putS_take x n i (by omega)
    simp only [putS, List.take_succ_cons, List.cons_append]
    rw [this, show n + 1 - 1 - (i + 1) = n - 1 - i by omega]
theorem rput_ac (x n : Nat) (hn : n ≤ 8) (hx : x < 18446744073709551616) :
    AC Try.prog 87 [.sc (.int .u64 (x : Int)), I n] [] (fun v bs' => v = bs (some tU) (putS x n) ∧ bs' = []) := by
  have hpl := putS_length x n
  refine AC.N Try.func87 Try.ntmps87 ?_
  intro X
  simp only [nx, Nat.reduceAdd, Nat.reduceSub, BEq.rfl]
  repeat' (first
    | ((first
    | ((with_reducible apply AP.k_any); first
             | refine AP.S ?_
      )
    
    )
      <;> (try simp only [nx, Nat.reduceAdd, Nat.reduceSub, BEq.rfl]))
    | ((with_reducible apply AP.k_nil); first
        | (refine AP.nil (hQ' _ ?_); clear hQ' Q')
        | refine AP.nil ?_)
    | ((with_reducible apply CP.k_reg); refine cp_regG fun Q' hQ' => ?_)
      | (with_reducible apply CP.k_reg1; refine cp_region ?_)
      | ((with_reducible apply CP.k_cond); first | refine cp_condT rfl ?_ | refine cp_condF rfl ?_ | refine cp_cond rfl (fun hc => ?_) (fun hc => ?_))
      | refine CP.go ?_
      | (simp only [List.append_eq, List.cons_append, List.nil_append]))
  refine CP.gh (gh_nil (t := 5) (e := tU) (k := 1) rfl) ?_
  simp only [nx, Nat.reduceAdd, Nat.reduceSub, BEq.rfl]
  refine CP.gh gh_slot ?_
  simp only [nx, Nat.reduceAdd, Nat.reduceSub, BEq.rfl]
  refine cp_loopS [5, 6, 7, 8, 9, 10, 11, 12, 13, 14, 15, 16, 17, 18, 19, 20, 21, 22, 23, 24, 25, 26, 27, 28, 29] (fun a : Nat × Nat × Nat => n - a.1) (fun a => a.1 ≤ n) (fun a => [(6, I a.1), (5, .hd 0 a.2.1)]) (fun a => [(0, ⟨a.2.1, .r tU 1 (((putS x n).take a.1).map eB)⟩), (1, ⟨a.2.2, .x⟩)]) (0, 1, 0) (Nat.zero_le _) (by exact Gh.W) ?_
  rintro ⟨i, u, v⟩ hi
  simp only [setT, deT, setB, List.set_cons_succ, List.set_cons_zero]
  dsimp only at hi
  by_cases hlt : i < n
  · have hw : IntKind.i64.wrap ((i : Int) + 1) = ((i + 1 : Nat) : Int) := wrap_i64 (by omega) (by omega)
    have hw1 : IntKind.i64.wrap ((n : Int) - 1) = ((n - 1 : Nat) : Int) := by rw [wrap_i64 (by omega) (by omega)]; omega
    have hlen : (((putS x n).take i).map eB).length + 1 ≤ 1000000000 := by simp; omega
    repeat' (first
      | ((first
      | ((with_reducible apply AP.k_any); first
               | refine AP.S ?_
        )
      
      )
        <;> (try simp only [nx, Nat.reduceAdd, Nat.reduceSub, BEq.rfl]))
      | ((with_reducible apply AP.k_nil); first
          | (refine AP.nil (hQ' _ ?_); clear hQ' Q')
          | refine AP.nil ?_)
      | ((with_reducible apply CP.k_reg); refine cp_regG fun Q' hQ' => ?_)
        | (with_reducible apply CP.k_reg1; refine cp_region ?_)
        | ((with_reducible apply CP.k_cond); first | refine cp_condT rfl ?_ | refine cp_condF rfl ?_ | refine cp_cond rfl (fun hc => ?_) (fun hc => ?_))
        | refine CP.go ?_
        | (simp only [List.append_eq, List.cons_append, List.nil_append]))
    · refine cp_loopS [7, 8, 16, 17, 18, 19, 20, 21, 22, 23] (fun k : Nat => n - 1 - k) (fun k => i ≤ k ∧ k ≤ n - 1) (fun k => [(7, .sc (.int .u64 ((x / 256 ^ (k - i) : Nat) : Int))), (8, I k)]) (fun _ => []) i ⟨Nat.le_refl _, by omega⟩ (by (simp only [Nat.sub_self, Nat.pow_zero, Nat.div_one]); exact Gh.W) ?_
      rintro k ⟨hk1, hk2⟩
      simp only [setT, deT, setB, List.set_cons_succ, List.set_cons_zero]
      by_cases hlk : k < n - 1
      · have hwk : IntKind.i64.wrap ((k : Int) + 1) = ((k + 1 : Nat) : Int) := wrap_i64 (by omega) (by omega)
        have hq : IntKind.u64.wrap (((x / 256 ^ (k - i) : Nat) : Int).tdiv 256) = ((x / 256 ^ (k + 1 - i) : Nat) : Int) := by
          have e1 : x / 256 ^ (k + 1 - i) = x / 256 ^ (k - i) / 256 := by rw [show k + 1 - i = (k - i) + 1 by omega, Nat.pow_succ, Nat.div_div_eq_div_mul]
          have e2 : x / 256 ^ (k - i) ≤ x := Nat.div_le_self _ _
          rw [e1, show (256 : Int) = ((256 : Nat) : Int) from rfl, ← Int.ofNat_tdiv]
          generalize x / 256 ^ (k - i) = y at e2
          simp [IntKind.wrap, IntKind.bits, IntKind.signed]; omega
        repeat' (first
          | ((first
          | ((with_reducible apply AP.k_any); first
                   | refine AP.S ?_
            )
          
          )
            <;> (try simp only [nx, Nat.reduceAdd, Nat.reduceSub, BEq.rfl]))
          | ((with_reducible apply AP.k_nil); first
              | (refine AP.nil (hQ' _ ?_); clear hQ' Q')
              | refine AP.nil ?_)
          | ((with_reducible apply CP.k_reg); refine cp_regG fun Q' hQ' => ?_)
            | (with_reducible apply CP.k_reg1; refine cp_region ?_)
            | ((with_reducible apply CP.k_cond); first | refine cp_condT rfl ?_ | refine cp_condF rfl ?_ | refine cp_cond rfl (fun hc => ?_) (fun hc => ?_))
            | refine CP.go ?_
            | (simp only [List.append_eq, List.cons_append, List.nil_append]))
        · simp only [hwk, hq]
          exact ⟨k + 1, by omega, ⟨by omega, by omega⟩, by exact Gh.W⟩
        · exfalso; simp [hw1] at *; omega
      · obtain rfl : k = n - 1 := by omega
        have hr : IntKind.u8.wrap (((x / 256 ^ (n - 1 - i) : Nat) : Int).tmod 256) = ((UInt8.ofNat (x / 256 ^ (n - 1 - i) % 256)).toNat : Int) := by
          rw [show (256 : Int) = ((256 : Nat) : Int) from rfl, ← Int.ofNat_tmod, UInt8.toNat_ofNat']
          simp [IntKind.wrap, IntKind.bits, IntKind.signed]
        repeat' (first
          | ((first
          | ((with_reducible apply AP.k_any); first
                   | refine AP.S ?_
            )
          
          )
            <;> (try simp only [nx, Nat.reduceAdd, Nat.reduceSub, BEq.rfl]))
          | ((with_reducible apply AP.k_nil); first
              | (refine AP.nil (hQ' _ ?_); clear hQ' Q')
              | refine AP.nil ?_)
          | ((with_reducible apply CP.k_reg); refine cp_regG fun Q' hQ' => ?_)
            | (with_reducible apply CP.k_reg1; refine cp_region ?_)
            | ((with_reducible apply CP.k_cond); first | refine cp_condT rfl ?_ | refine cp_condF rfl ?_ | refine cp_cond rfl (fun hc => ?_) (fun hc => ?_))
            | refine CP.go ?_
            | (simp only [List.append_eq, List.cons_append, List.nil_append]))
        · exfalso; simp [hw1] at *
        · simp only [hw, hr]
          refine ⟨(i + 1, u + 1, v + 1), by (dsimp only; omega), by (dsimp only; omega), ?_⟩
          dsimp only
          rw [putS_take x n i hlt, List.map_append, List.map_cons, List.map_nil]
          exact Gh.W
    · exfalso; simp at *; omega
  · obtain rfl : i = n := by omega
    rw [List.take_of_length_le (by omega)]
    repeat' (first
      | ((first
      | ((with_reducible apply AP.k_any); first
               | refine AP.S ?_
        )
      
      )
        <;> (try simp only [nx, Nat.reduceAdd, Nat.reduceSub, BEq.rfl]))
      | ((with_reducible apply AP.k_nil); first
          | (refine AP.nil (hQ' _ ?_); clear hQ' Q')
          | refine AP.nil ?_)
      | ((with_reducible apply CP.k_reg); refine cp_regG fun Q' hQ' => ?_)
        | (with_reducible apply CP.k_reg1; refine cp_region ?_)
        | ((with_reducible apply CP.k_cond); first | refine cp_condT rfl ?_ | refine cp_condF rfl ?_ | refine cp_cond rfl (fun hc => ?_) (fun hc => ?_))
        | refine CP.go ?_
        | (simp only [List.append_eq, List.cons_append, List.nil_append]))
    all_goals first
      | (exfalso; simp at *; done)
      | (exfalso; simp at *; omega)
      | (refine RetQ.B [] ?_; (try dsimp only [resV, List.getD_cons_succ, List.getD_cons_zero]); (exact ⟨rfl, rfl⟩))
end Go.Proofs.Ytnjfchigdpifmaa

namespace Go.Proofs.Ytnjfchigdpifmaa
set_option linter.unusedVariables false
set_option linter.unusedSimpArgs false
set_option maxHeartbeats 8000000
open Go.RowKit
set_option maxRecDepth 100000
theorem same_ac (a b : List UInt8) (ha : a.length ≤ 1000000000) :
    AC Try.prog 19 [bs none a, bs none b] [] (fun v bs => v = B (decide (a = b)) ∧ bs = []) := by
  refine AC.N Try.func19 Try.ntmps19 ?_
  intro X
  simp only [nx, Nat.reduceAdd, Nat.reduceSub, BEq.rfl]
  repeat' (first
    | ((first
    | ((with_reducible apply AP.k_any); first
             | refine AP.S ?_
             | refine AP.E ?_
             | (refine AP.V (fun c hnil => ?_); simp only [nz])
      )
    
    | ((with_reducible apply AQ.k_any); first
                    | refine AQ.S ?_
                    | refine AQ.E ?_
      )
    )
      <;> (try simp only [nx, Nat.reduceAdd, Nat.reduceSub, BEq.rfl]))
    | ((with_reducible apply AP.k_nil); first
        | (refine AP.nil (hQ' _ ?_); clear hQ' Q')
        | refine AP.nil ?_)
    | ((with_reducible apply AQ.k_nil); first | (refine AQ.nil (hQ' _ ?_); clear hQ' Q') | refine AQ.nil ?_)
    | ((with_reducible apply CP.k_drw); refine cp_drw (by kernel_rfl) (by kernel_rfl) fun Q' hQ' => ?_)
    | ((with_reducible apply CP.k_drw1); refine cp_draw (by kernel_rfl) (by kernel_rfl) ?_)
    | ((with_reducible apply CP.k_reg); refine cp_regG fun Q' hQ' => ?_)
      | (with_reducible apply CP.k_reg1; refine cp_region ?_)
      | ((with_reducible apply CP.k_cond); first | refine cp_condT rfl ?_ | refine cp_condF rfl ?_ | refine cp_cond rfl (fun hc => ?_) (fun hc => ?_))
      | refine CP.go ?_
      | (simp only [List.append_eq, List.cons_append, List.nil_append]))
  · (refine RetQ.B [] ?_; (try dsimp only [resV, List.getD_cons_succ, List.getD_cons_zero]); ((have h : ¬ a = b := by rintro rfl; simp at hc); exact ⟨by simp [h], rfl⟩))
  · have hl : a.length = b.length := by simp at hc; omega
    refine cp_loopW (fun n s => ∃ k : Nat, k ≤ a.length ∧ n = a.length - k ∧ a.take k = b.take k ∧ s = ⟨tm 26 [(0, bs none a), (1, bs none b), (4, B false), (5, I k)], []⟩) a.length ⟨tm 26 [(0, bs none a), (1, bs none b), (4, B false), (5, I (0 : Nat))], []⟩ (by simp only [tm, List.foldl_cons, List.foldl_nil, List.replicate_succ, List.replicate_zero, List.set_cons_succ, List.set_cons_zero, Nat.reduceAdd]; (refine ⟨?_, ?_⟩ <;> (try dsimp only) <;> (repeat' (first | exact Wk.nil | exact WkB.nil | apply Wk.same | apply Wk.de | apply Wk.nl | apply WkB.same | apply WkB.drop)))) ⟨0, by omega, by omega, by simp, rfl⟩ ?_
    rintro n s ⟨k, hk, rfl, he, rfl⟩
    simp only [tm, List.foldl_cons, List.foldl_nil, List.replicate_succ, List.replicate_zero, List.set_cons_succ, List.set_cons_zero, Nat.reduceAdd]
    by_cases hlt : k < a.length
    · have hx : (a.map eB)[k]? = some (eB a[k]) := by simp [hlt]
      have hy : (b.map eB)[k]? = some (eB (b[k]'(by omega))) := by simp [show k < b.length by omega]
      have hw : IntKind.i64.wrap ((k : Int) + 1) = ((k + 1 : Nat) : Int) := wrap_i64 (by omega) (by omega)
      repeat' (first
        | ((first
        | ((with_reducible apply AP.k_any); first
                 | refine AP.S ?_
                 | refine AP.E ?_
                 | (refine AP.V (fun c hnil => ?_); simp only [nz])
          )
        
        | ((with_reducible apply AQ.k_any); first
                        | refine AQ.S ?_
                        | refine AQ.E ?_
          )
        )
          <;> (try simp only [nx, Nat.reduceAdd, Nat.reduceSub, BEq.rfl]))
        | ((with_reducible apply AP.k_nil); first
            | (refine AP.nil (hQ' _ ?_); clear hQ' Q')
            | refine AP.nil ?_)
        | ((with_reducible apply AQ.k_nil); first | (refine AQ.nil (hQ' _ ?_); clear hQ' Q') | refine AQ.nil ?_)
        | ((with_reducible apply CP.k_drw); refine cp_drw (by kernel_rfl) (by kernel_rfl) fun Q' hQ' => ?_)
        | ((with_reducible apply CP.k_drw1); refine cp_draw (by kernel_rfl) (by kernel_rfl) ?_)
        | ((with_reducible apply CP.k_reg); refine cp_regG fun Q' hQ' => ?_)
          | (with_reducible apply CP.k_reg1; refine cp_region ?_)
          | ((with_reducible apply CP.k_cond); first | refine cp_condT rfl ?_ | refine cp_condF rfl ?_ | refine cp_cond rfl (fun hc => ?_) (fun hc => ?_))
          | refine CP.go ?_
          | (simp only [List.append_eq, List.cons_append, List.nil_append]))
      · (refine RetQ.B [] ?_; (try dsimp only [resV, List.getD_cons_succ, List.getD_cons_zero]); ((have h : ¬ a = b := by rintro rfl; simp at hc); exact ⟨by simp [h], rfl⟩))
      · simp only [hw]
        refine ⟨a.length - (k + 1), ⟨tm 26 [(0, bs none a), (1, bs none b), (4, B false), (5, I (k + 1 : Nat))], []⟩, by omega, (by simp only [tm, List.foldl_cons, List.foldl_nil, List.replicate_succ, List.replicate_zero, List.set_cons_succ, List.set_cons_zero, Nat.reduceAdd]; (refine ⟨?_, ?_⟩ <;> (try dsimp only) <;> (repeat' (first | exact Wk.nil | exact WkB.nil | apply Wk.same | apply Wk.de | apply Wk.nl | apply WkB.same | apply WkB.drop)))), k + 1, by omega, rfl, ?_, rfl⟩
        rename_i hc
        have : a[k] = b[k]'(by omega) := by
          simp at hc
          exact UInt8.toNat_inj.1 (by omega)
        rw [List.take_succ_eq_append_getElem hlt, List.take_succ_eq_append_getElem (by omega), he, this]
      · exfalso; simp at *; omega
    · have hk' : k = a.length := by omega
      have hab : a = b := by
        rw [hk', List.take_of_length_le (Nat.le_refl _), List.take_of_length_le (by omega)] at he; exact he
      subst hab
      repeat' (first
        | ((first
        | ((with_reducible apply AP.k_any); first
                 | refine AP.S ?_
                 | refine AP.E ?_
                 | (refine AP.V (fun c hnil => ?_); simp only [nz])
          )
        
        | ((with_reducible apply AQ.k_any); first
                        | refine AQ.S ?_
                        | refine AQ.E ?_
          )
        )
          <;> (try simp only [nx, Nat.reduceAdd, Nat.reduceSub, BEq.rfl]))
        | ((with_reducible apply AP.k_nil); first
            | (refine AP.nil (hQ' _ ?_); clear hQ' Q')
            | refine AP.nil ?_)
        | ((with_reducible apply AQ.k_nil); first | (refine AQ.nil (hQ' _ ?_); clear hQ' Q') | refine AQ.nil ?_)
        | ((with_reducible apply CP.k_drw); refine cp_drw (by kernel_rfl) (by kernel_rfl) fun Q' hQ' => ?_)
        | ((with_reducible apply CP.k_drw1); refine cp_draw (by kernel_rfl) (by kernel_rfl) ?_)
        | ((with_reducible apply CP.k_reg); refine cp_regG fun Q' hQ' => ?_)
          | (with_reducible apply CP.k_reg1; refine cp_region ?_)
          | ((with_reducible apply CP.k_cond); first | refine cp_condT rfl ?_ | refine cp_condF rfl ?_ | refine cp_cond rfl (fun hc => ?_) (fun hc => ?_))
          | refine CP.go ?_
          | (simp only [List.append_eq, List.cons_append, List.nil_append]))
      all_goals first
        | (exfalso; simp at *; omega)
        | (refine RetQ.B [] ?_; (try dsimp only [resV, List.getD_cons_succ, List.getD_cons_zero]); (exact ⟨by simp, rfl⟩))
theorem cat_ac (a b : List UInt8) (ha : a.length ≤ 100000000) (hb : b.length ≤ 100000000) :
    AC Try.prog 38 [bs none a, bs none b] [] (fun v bs' => v = bs (some tU) (a ++ b) ∧ bs' = []) := by
  refine AC.N Try.func38 Try.ntmps38 ?_
  intro X
  simp only [nx, Nat.reduceAdd, Nat.reduceSub, BEq.rfl]
  repeat' (first
    | ((first
    | ((with_reducible apply AP.k_any); first
             | refine AP.S ?_
      )
    
    
    )
      <;> (try simp only [nx, Nat.reduceAdd, Nat.reduceSub, BEq.rfl]))
    | ((with_reducible apply AP.k_nil); first
        | (refine AP.nil (hQ' _ ?_); clear hQ' Q')
        | refine AP.nil ?_)
    | ((with_reducible apply CP.k_reg); refine cp_regG fun Q' hQ' => ?_)
      | (with_reducible apply CP.k_reg1; refine cp_region ?_)
      | ((with_reducible apply CP.k_cond); first | refine cp_condT rfl ?_ | refine cp_condF rfl ?_ | refine cp_cond rfl (fun hc => ?_) (fun hc => ?_))
      | refine CP.go ?_
      | (simp only [List.append_eq, List.cons_append, List.nil_append]))
  (refine RetQ.B [] ?_; (try dsimp only [resV, List.getD_cons_succ, List.getD_cons_zero]); (exact ⟨by simp, rfl⟩))
theorem copy_ac (a : List UInt8) (ha : a.length ≤ 100000000) :
    AC Try.prog 12 [bs none a] [] (fun v bs' => v = bs (some tU) a ∧ bs' = []) := by
  refine AC.N Try.func12 Try.ntmps12 ?_
  intro X
  simp only [nx, Nat.reduceAdd, Nat.reduceSub, BEq.rfl]
  repeat' (first
    | ((first
    | ((with_reducible apply AP.k_any); first
             | refine AP.S ?_
      )
    | ((with_reducible apply AP.k_any); refine AP.C (cat_ac a [] ha (by simp)) ?_)
    
    )
      <;> (try simp only [nx, Nat.reduceAdd, Nat.reduceSub, BEq.rfl]))
    | ((with_reducible apply AP.k_nil); first
        | (refine AP.nil (hQ' _ ?_); clear hQ' Q')
        | refine AP.nil ?_)
    | ((with_reducible apply CP.k_reg); refine cp_regG fun Q' hQ' => ?_)
      | (with_reducible apply CP.k_reg1; refine cp_region ?_)
      | ((with_reducible apply CP.k_cond); first | refine cp_condT rfl ?_ | refine cp_condF rfl ?_ | refine cp_cond rfl (fun hc => ?_) (fun hc => ?_))
      | refine CP.go ?_
      | (simp only [List.append_eq, List.cons_append, List.nil_append]))
  (refine RetQ.B [] ?_; (try dsimp only [resV, List.getD_cons_succ, List.getD_cons_zero]); (exact ⟨by simp, rfl⟩))
end Go.Proofs.Ytnjfchigdpifmaa

namespace Go.Proofs.Ytnjfchigdpifmaa
set_option linter.unusedVariables false
set_option linter.unusedSimpArgs false
set_option maxHeartbeats 8000000
open Go.RowKit
set_option maxRecDepth 100000
/-- a reader of the document: bytes, how many are read, why it is bad -/
structure Rf where
  b : List UInt8
  at_ : Nat
  bad : Int
abbrev tRf : TypeId := 100
abbrev fB (s : Rf) : Bx := .c tRf [bs none s.b, I s.at_, I s.bad]
/-- as the program's -/
def Rf.st (s : Rf) : Int × List UInt8 := (s.bad, if s.bad = 0 then s.b.drop s.at_ else [])
def Rf.ok (s : Rf) : Prop := s.at_ ≤ s.b.length ∧ s.b.length ≤ 100000000
def someF (n : Nat) (s : Rf) : (List UInt8 × Bool) × Rf :=
  if s.bad ≠ 0 then (([], false), s) else if s.b.length - s.at_ < n then (([], false), ⟨s.b, s.at_, 40⟩) else (((s.b.drop s.at_).take n, true), ⟨s.b, s.at_ + n, 0⟩)
theorem dload_ac (b : List UInt8) (n : Nat) (hn : n ≤ 8) (hb : b.length = n) : AC Try.prog 66 [bs none b, I 0, I n] [] (fun v bs' => v = .tu [.sc (.int .u64 (beN b : Int)), B true] ∧ bs' = []) := by
  have hw0 : IntKind.i64.wrap ((b.length : Int) - 0) = (b.length : Int) := by rw [wrap_i64 (by omega) (by omega)]; omega
  have hw1 : IntKind.i64.wrap (0 + (n : Int)) = n := by rw [wrap_i64 (by omega) (by omega)]; omega
  refine AC.N Try.func66 Try.ntmps66 ?_
  intro X
  simp only [nx, Nat.reduceAdd, Nat.reduceSub, BEq.rfl]
  repeat' (first
    | ((first
    | ((with_reducible apply AP.k_any); first
             | refine AP.S ?_
             | refine AP.E ?_
             | (refine AP.Y ?_; dsimp only) | refine AP.G (fun hg => ?_) (fun hg => ?_)
      )
    
    )
      <;> (try simp only [nx, Nat.reduceAdd, Nat.reduceSub, BEq.rfl]))
    | ((with_reducible apply AP.k_nil); first
        | (refine AP.nil (hQ' _ ?_); clear hQ' Q')
        | refine AP.nil ?_)
    | ((with_reducible apply CP.k_reg); refine cp_regG fun Q' hQ' => ?_)
      | (with_reducible apply CP.k_reg1; refine cp_region ?_)
      | ((with_reducible apply CP.k_cond); first | refine cp_condT rfl ?_ | refine cp_condF rfl ?_ | refine cp_cond rfl (fun hc => ?_) (fun hc => ?_))
      | refine CP.go ?_
      | (simp only [List.append_eq, List.cons_append, List.nil_append]))
  all_goals first
    | (exfalso; simp [hw0, hb] at *; done)
    | (exfalso; simp [hw0, hb] at *; omega)
    | skip
  refine cp_loopS [8, 9, 27, 28, 29, 30, 31, 32, 33, 34, 35, 36, 37, 38, 39, 40, 41] (fun k : Nat => n - k) (fun k => k ≤ n) (fun k => [(9, I k), (8, .sc (.int .u64 (beN (b.take k) : Int)))]) (fun _ => []) 0 (Nat.zero_le _) (by exact Gh.W) ?_
  rintro k hk
  simp only [setT, deT, setB, List.set_cons_succ, List.set_cons_zero]
  by_cases hlt : k < n
  · have hw : IntKind.i64.wrap ((k : Int) + 1) = ((k + 1 : Nat) : Int) := wrap_i64 (by omega) (by omega)
    have hb1 := beN_lt (b.take k)
    have hb2 : 256 ^ (b.take k).length ≤ 256 ^ 7 := Nat.pow_le_pow_right (by omega) (by simp; omega)
    have hkb : k < b.length := by omega
    have hsn : beN (b.take (k + 1)) = 256 * beN (b.take k) + b[k].toNat := by rw [List.take_succ_eq_append_getElem hkb, beN_snoc]
    have hcl := b[k].toNat_lt
    have hm : IntKind.u64.wrap (IntKind.u64.wrap (256 * (beN (b.take k) : Int)) + IntKind.u64.wrap (b[k].toNat : Int)) = ((beN (b.take (k + 1)) : Nat) : Int) := by
      rw [hsn]
      generalize beN (b.take k) = x at hb1 hb2
      simp [IntKind.wrap, IntKind.bits, IntKind.signed]; omega
    repeat' (first
      | ((first
      | ((with_reducible apply AP.k_any); first
               | refine AP.S ?_
               | refine AP.E ?_
               | (refine AP.Y ?_; dsimp only) | refine AP.G (fun hg => ?_) (fun hg => ?_)
        )
      
      )
        <;> (try simp only [nx, Nat.reduceAdd, Nat.reduceSub, BEq.rfl]))
      | ((with_reducible apply AP.k_nil); first
          | (refine AP.nil (hQ' _ ?_); clear hQ' Q')
          | refine AP.nil ?_)
      | ((with_reducible apply CP.k_reg); refine cp_regG fun Q' hQ' => ?_)
        | (with_reducible apply CP.k_reg1; refine cp_region ?_)
        | ((with_reducible apply CP.k_cond); first | refine cp_condT rfl ?_ | refine cp_condF rfl ?_ | refine cp_cond rfl (fun hc => ?_) (fun hc => ?_))
        | refine CP.go ?_
        | (simp only [List.append_eq, List.cons_append, List.nil_append]))
    · simp only [hw, hm]
      exact ⟨k + 1, by omega, by omega, by exact Gh.W⟩
    · exfalso; simp [hw1] at *; omega
  · obtain rfl : k = n := by omega
    rw [List.take_of_length_le (by omega)]
    repeat' (first
      | ((first
      | ((with_reducible apply AP.k_any); first
               | refine AP.S ?_
               | refine AP.E ?_
               | (refine AP.Y ?_; dsimp only) | refine AP.G (fun hg => ?_) (fun hg => ?_)
        )
      
      )
        <;> (try simp only [nx, Nat.reduceAdd, Nat.reduceSub, BEq.rfl]))
      | ((with_reducible apply AP.k_nil); first
          | (refine AP.nil (hQ' _ ?_); clear hQ' Q')
          | refine AP.nil ?_)
      | ((with_reducible apply CP.k_reg); refine cp_regG fun Q' hQ' => ?_)
        | (with_reducible apply CP.k_reg1; refine cp_region ?_)
        | ((with_reducible apply CP.k_cond); first | refine cp_condT rfl ?_ | refine cp_condF rfl ?_ | refine cp_cond rfl (fun hc => ?_) (fun hc => ?_))
        | refine CP.go ?_
        | (simp only [List.append_eq, List.cons_append, List.nil_append]))
    all_goals first
      | (exfalso; rw [hw1] at hc; simp at hc; done)
      | (refine RetQ.B [] ?_; (try dsimp only [resV, List.getD_cons_succ, List.getD_cons_zero]); (exact ⟨rfl, rfl⟩))
theorem some_ac (n : Nat) (s : Rf) (hs : s.ok) (hn : n ≤ 4294967295) : AC Try.prog 65 [.bp 0 0 0, I n] [fB s] (fun v bs' => v = .tu [bs none (someF n s).1.1, B (someF n s).1.2] ∧ bs' = [fB (someF n s).2]) := by
  obtain ⟨b, p, e⟩ := s
  obtain ⟨h1, h2⟩ := hs
  dsimp only at h1 h2
  have hw0 : IntKind.i64.wrap ((b.length : Int) - p) = ((b.length - p : Nat) : Int) := by rw [wrap_i64 (by omega) (by omega)]; omega
  by_cases he : e = 0
  · subst he
    by_cases hl : b.length - p < n
    · have e1 : someF n ⟨b, p, 0⟩ = (([], false), ⟨b, p, 40⟩) := by simp [someF, hl]
      rw [e1]
      refine AC.N Try.func65 Try.ntmps65 ?_
      intro X
      simp only [nx, Nat.reduceAdd, Nat.reduceSub, BEq.rfl]
      repeat' (first
        | ((first
        | ((with_reducible apply AP.k_any); first
                 | refine AP.S ?_
                 | (refine AP.V (fun c hnil => ?_); simp only [nz])
          )
        
        | ((with_reducible apply AQ.k_any); first
                        | refine AQ.S ?_
          )
        )
          <;> (try simp only [nx, Nat.reduceAdd, Nat.reduceSub, BEq.rfl]))
        | ((with_reducible apply AP.k_nil); first
            | (refine AP.nil (hQ' _ ?_); clear hQ' Q')
            | refine AP.nil ?_)
        | ((with_reducible apply AQ.k_nil); first | (refine AQ.nil (hQ' _ ?_); clear hQ' Q') | refine AQ.nil ?_)
        | ((with_reducible apply CP.k_drw); refine cp_drw (by kernel_rfl) (by kernel_rfl) fun Q' hQ' => ?_)
        | ((with_reducible apply CP.k_drw1); refine cp_draw (by kernel_rfl) (by kernel_rfl) ?_)
        | ((with_reducible apply CP.k_reg); refine cp_regG fun Q' hQ' => ?_)
          | (with_reducible apply CP.k_reg1; refine cp_region ?_)
          | ((with_reducible apply CP.k_cond); first | refine cp_condT rfl ?_ | refine cp_condF rfl ?_ | refine cp_cond rfl (fun hc => ?_) (fun hc => ?_))
          | refine CP.go ?_
          | (simp only [List.append_eq, List.cons_append, List.nil_append]))
      all_goals first
        | (exfalso; simp [hw0] at *; done)
        | (exfalso; simp [hw0] at *; omega)
        | (exact RetQ.A [(0, 0)] (by exact ⟨rfl, rfl⟩))
    · have e1 : someF n ⟨b, p, 0⟩ = (((b.drop p).take n, true), ⟨b, p + n, 0⟩) := by simp [someF, hl]
      rw [e1]
      have hw1 : IntKind.i64.wrap ((p : Int) + n) = ((p + n : Nat) : Int) := by rw [wrap_i64 (by omega) (by omega)]; omega
      have hw2 : IntKind.i64.wrap (IntKind.i64.wrap ((p : Int) + n) - n) = (p : Int) := by rw [hw1, wrap_i64 (by omega) (by omega)]; omega
      have hcopy := (copy_ac ((b.drop p).take n) (by simp; omega)).ro (r2 := bs none ((b.drop p).take n)) (by simp only [AV.ro, ro_B])
      rw [hw1] at hw2
      have esl : (List.take ((((p + n : Nat) : Int)).toNat - (IntKind.i64.wrap (((p + n : Nat) : Int) - n)).toNat) (List.drop (IntKind.i64.wrap (((p + n : Nat) : Int) - n)).toNat b)) = (b.drop p).take n := by rw [hw2, show (((p + n : Nat) : Int)).toNat - (p : Int).toNat = n by omega, Int.toNat_natCast]
      have g3 : ((p + n : Nat) : Int) ≤ ((b.map eB).length : Int) := by simp; omega
      rw [← esl] at hcopy
      refine AC.N Try.func65 Try.ntmps65 ?_
      intro X
      simp only [nx, Nat.reduceAdd, Nat.reduceSub, BEq.rfl]
      repeat' (first
        | ((first
        | ((with_reducible apply AP.k_any); first
                 | refine AP.S ?_
                 | (refine AP.V (fun c hnil => ?_); simp only [nz])
          )
        
        )
          <;> (try simp only [nx, Nat.reduceAdd, Nat.reduceSub, BEq.rfl]))
        | ((with_reducible apply AP.k_nil); first
            | (refine AP.nil (hQ' _ ?_); clear hQ' Q')
            | refine AP.nil ?_)
        | ((with_reducible apply CP.k_reg); refine cp_regG fun Q' hQ' => ?_)
          | (with_reducible apply CP.k_reg1; refine cp_region ?_)
          | ((with_reducible apply CP.k_cond); first | refine cp_condT rfl ?_ | refine cp_condF rfl ?_ | refine cp_cond rfl (fun hc => ?_) (fun hc => ?_))
          | refine CP.go ?_
          | (simp only [List.append_eq, List.cons_append, List.nil_append]))
      first | refine cp_drw (by kernel_rfl) (by kernel_rfl) fun Q' hQ' => ?_ | refine cp_draw (by kernel_rfl) (by kernel_rfl) ?_
      repeat' (first
        | ((first
        | ((with_reducible apply AP.k_any); first
                 | refine AP.S ?_
                 | (refine AP.V (fun c hnil => ?_); simp only [nz])
          )
        
        | ((with_reducible apply AQ.k_any); first
                        | refine AQ.S ?_
          )
        )
          <;> (try simp only [nx, Nat.reduceAdd, Nat.reduceSub, BEq.rfl]))
        | ((with_reducible apply AP.k_nil); first
            | (refine AP.nil (hQ' _ ?_); clear hQ' Q')
            | refine AP.nil ?_)
        | ((with_reducible apply AQ.k_nil); first | (refine AQ.nil (hQ' _ ?_); clear hQ' Q') | refine AQ.nil ?_)
        | ((with_reducible apply CP.k_reg); refine cp_regG fun Q' hQ' => ?_)
          | (with_reducible apply CP.k_reg1; refine cp_region ?_)
          | ((with_reducible apply CP.k_cond); first | refine cp_condT rfl ?_ | refine cp_condF rfl ?_ | refine cp_cond rfl (fun hc => ?_) (fun hc => ?_))
          | refine CP.go ?_
          | (simp only [List.append_eq, List.cons_append, List.nil_append]))
      · exfalso; simp [hw0] at *; omega
      simp only [hw1]
      refine cp_drawI (fun zs zb => ⟨setT zs.t [(35, cond (zb.getD 0 false) (.bp 0 0 0) (.tu [])), (36, cond (zb.getD 1 false) (.bp 0 0 0) (.tu [])), (37, cond (zb.getD 2 false) (.bp 0 0 0) (.tu [])), (38, cond (zb.getD 3 false) (bs none b) (.tu [])), (39, cond (zb.getD 4 false) (.bp 0 0 0) (.tu [])), (40, cond (zb.getD 5 false) (.bp 0 0 0) (.tu [])), (41, cond (zb.getD 6 false) (.bp 0 0 1) (.tu [])), (42, cond (zb.getD 7 false) (I ((p + n : Nat) : Int)) (.tu [])), (43, cond (zb.getD 8 false) (I n) (.tu [])), (44, cond (zb.getD 9 false) (I (IntKind.i64.wrap (((p + n : Nat) : Int) - n))) (.tu [])), (45, cond (zb.getD 10 false) (.bp 0 0 0) (.tu [])), (46, cond (zb.getD 11 false) (.bp 0 0 0) (.tu [])), (47, cond (zb.getD 12 false) (.bp 0 0 1) (.tu [])), (48, cond (zb.getD 13 false) (I ((p + n : Nat) : Int)) (.tu [])), (49, cond (zb.getD 14 false) (bs none (List.take ((((p + n : Nat) : Int)).toNat - (IntKind.i64.wrap (((p + n : Nat) : Int) - n)).toNat) (List.drop (IntKind.i64.wrap (((p + n : Nat) : Int) - n)).toNat b))) (.tu [])), (50, cond (zb.getD 15 false) (bs none (List.take ((((p + n : Nat) : Int)).toNat - (IntKind.i64.wrap (((p + n : Nat) : Int) - n)).toNat) (List.drop (IntKind.i64.wrap (((p + n : Nat) : Int) - n)).toNat b))) (.tu [])), (4, cond (zb.getD 16 false) (bs none (List.take ((((p + n : Nat) : Int)).toNat - (IntKind.i64.wrap (((p + n : Nat) : Int) - n)).toNat) (List.drop (IntKind.i64.wrap (((p + n : Nat) : Int) - n)).toNat b))) (.sc (.slice none 0 0))), (5, cond (zb.getD 17 false) (B true) (B false))], zs.b⟩) (by kernel_rfl) (by kernel_rfl) (by kernel_rfl) ?_ ?_
      rotate_left
      simp only [cond_true, cond_false, setT, List.set_cons_succ, List.set_cons_zero, List.getD_cons_succ, List.getD_cons_zero, List.set_cons_succ, List.length_cons, List.length_nil, List.replicate_succ, List.replicate_zero, Nat.reduceAdd]
      rotate_left
      · intro b hb' hcl
        obtain ⟨l0, b0, rfl, hb0⟩ := len_cons hb'
        obtain ⟨l1, b1, rfl, hb1⟩ := len_cons hb0
        obtain ⟨l2, b2, rfl, hb2⟩ := len_cons hb1
        obtain ⟨l3, b3, rfl, hb3⟩ := len_cons hb2
        obtain ⟨l4, b4, rfl, hb4⟩ := len_cons hb3
        obtain ⟨l5, b5, rfl, hb5⟩ := len_cons hb4
        obtain ⟨l6, b6, rfl, hb6⟩ := len_cons hb5
        obtain ⟨l7, b7, rfl, hb7⟩ := len_cons hb6
        obtain ⟨l8, b8, rfl, hb8⟩ := len_cons hb7
        obtain ⟨l9, b9, rfl, hb9⟩ := len_cons hb8
        obtain ⟨l10, b10, rfl, hb10⟩ := len_cons hb9
        obtain ⟨l11, b11, rfl, hb11⟩ := len_cons hb10
        obtain ⟨l12, b12, rfl, hb12⟩ := len_cons hb11
        obtain ⟨l13, b13, rfl, hb13⟩ := len_cons hb12
        obtain ⟨l14, b14, rfl, hb14⟩ := len_cons hb13
        obtain ⟨l15, b15, rfl, hb15⟩ := len_cons hb14
        obtain ⟨l16, b16, rfl, hb16⟩ := len_cons hb15
        obtain ⟨l17, b17, rfl, hb17⟩ := len_cons hb16
        obtain rfl := List.length_eq_zero_iff.1 hb17
        clear hb' hb0 hb1 hb2 hb3 hb4 hb5 hb6 hb7 hb8 hb9 hb10 hb11 hb12 hb13 hb14 hb15 hb16 hb17
        · simp only [closedB, depsOk, Region.binds, List.toList_toArray, List.all_cons, List.all_nil, List.getD_cons_succ, List.getD_cons_zero, Bool.not_true, Bool.not_false, Bool.true_or, Bool.false_or, Bool.and_true, Bool.true_and, Bool.or_true, Bool.and_false, Bool.or_false, Bool.false_and, Bool.and_eq_true, Bool.or_eq_true, Bool.not_eq_true'] at hcl
          simp only [StepsP]
          refine ⟨?_, ?_, ?_, ?_, ?_, ?_, ?_, ?_, ?_, ?_, ?_, ?_, ?_, ?_, ?_, ?_, ?_, ?_, trivial⟩
          · intro h1 h2
            simp [depsOk, Region.binds] at h1 h2
            subst h1
            (repeat (obtain ⟨rfl, h2⟩ := h2))
            (try subst h2)
            clear hcl
            simp only [cond_true, cond_false, setT, List.set_cons_succ, List.set_cons_zero, List.getD_cons_succ, List.getD_cons_zero, List.set_cons_succ]
            (with_reducible apply AP.k_any); first | (refine AP.sm false rfl ?_ ?_; focus ((repeat' (with_reducible apply And.intro)) <;> (first | exact True.intro | exact rfl | omega | decide | (simp; omega) | (simp; done) | assumption | exact .inl rfl | (refine .inr ?_; simp; try omega)))) | fail "no step"
            all_goals (try simp only [nx, Nat.reduceAdd, Nat.reduceSub, BEq.rfl])
            refine AP.nil ?_
            exact ⟨rfl, rfl⟩
          · intro h1 h2
            simp [depsOk, Region.binds] at h1 h2
            subst h1
            (repeat (obtain ⟨rfl, h2⟩ := h2))
            (try subst h2)
            clear hcl
            simp only [cond_true, cond_false, setT, List.set_cons_succ, List.set_cons_zero, List.getD_cons_succ, List.getD_cons_zero, List.set_cons_succ]
            (with_reducible apply AP.k_any); first | (refine AP.sm false rfl ?_ ?_; focus ((repeat' (with_reducible apply And.intro)) <;> (first | exact True.intro | exact rfl | omega | decide | (simp; omega) | (simp; done) | assumption | exact .inl rfl | (refine .inr ?_; simp; try omega)))) | fail "no step"
            all_goals (try simp only [nx, Nat.reduceAdd, Nat.reduceSub, BEq.rfl])
            refine AP.nil ?_
            exact ⟨rfl, rfl⟩
          · intro h1 h2
            simp [depsOk, Region.binds] at h1 h2
            subst h1
            (repeat (obtain ⟨rfl, h2⟩ := h2))
            (try subst h2)
            clear hcl
            simp only [cond_true, cond_false, setT, List.set_cons_succ, List.set_cons_zero, List.getD_cons_succ, List.getD_cons_zero, List.set_cons_succ]
            (with_reducible apply AP.k_any); first | (refine AP.sm false rfl ?_ ?_; focus ((repeat' (with_reducible apply And.intro)) <;> (first | exact True.intro | exact rfl | omega | decide | (simp; omega) | (simp; done) | assumption | exact .inl rfl | (refine .inr ?_; simp; try omega)))) | fail "no step"
            all_goals (try simp only [nx, Nat.reduceAdd, Nat.reduceSub, BEq.rfl])
            refine AP.nil ?_
            exact ⟨rfl, rfl⟩
          · intro h1 h2
            simp [depsOk, Region.binds] at h1 h2
            subst h1
            (repeat (obtain ⟨rfl, h2⟩ := h2))
            (try subst h2)
            clear hcl
            simp only [cond_true, cond_false, setT, List.set_cons_succ, List.set_cons_zero, List.getD_cons_succ, List.getD_cons_zero, List.set_cons_succ]
            (with_reducible apply AP.k_any); first | (refine AP.sm false rfl ?_ ?_; focus ((repeat' (with_reducible apply And.intro)) <;> (first | exact True.intro | exact rfl | omega | decide | (simp; omega) | (simp; done) | assumption | exact .inl rfl | (refine .inr ?_; simp; try omega)))) | (refine AP.el rfl ?_ (by (first | (refine ⟨?_, ?_⟩; assumption; rfl) | exact ⟨mapAt (by (first | omega | (simp; omega) | (simp; done) | assumption)), rfl⟩ | exact ⟨rfl, rfl⟩)) ?_; focus ((repeat' (with_reducible apply And.intro)) <;> (first | exact True.intro | exact rfl | omega | decide | (simp; omega) | (simp; done) | assumption | exact .inl rfl | (refine .inr ?_; simp; try omega)))) | fail "no step"
            all_goals (try simp only [nx, Nat.reduceAdd, Nat.reduceSub, BEq.rfl])
            refine AP.nil ?_
            exact ⟨rfl, rfl⟩
          · intro h1 h2
            simp [depsOk, Region.binds] at h1 h2
            subst h1
            (repeat (obtain ⟨rfl, h2⟩ := h2))
            (try subst h2)
            clear hcl
            simp only [cond_true, cond_false, setT, List.set_cons_succ, List.set_cons_zero, List.getD_cons_succ, List.getD_cons_zero, List.set_cons_succ]
            (with_reducible apply AP.k_any); first | (refine AP.sm false rfl ?_ ?_; focus ((repeat' (with_reducible apply And.intro)) <;> (first | exact True.intro | exact rfl | omega | decide | (simp; omega) | (simp; done) | assumption | exact .inl rfl | (refine .inr ?_; simp; try omega)))) | fail "no step"
            all_goals (try simp only [nx, Nat.reduceAdd, Nat.reduceSub, BEq.rfl])
            refine AP.nil ?_
            exact ⟨rfl, rfl⟩
          · intro h1 h2
            simp [depsOk, Region.binds] at h1 h2
            subst h1
            (repeat (obtain ⟨rfl, h2⟩ := h2))
            (try subst h2)
            clear hcl
            simp only [cond_true, cond_false, setT, List.set_cons_succ, List.set_cons_zero, List.getD_cons_succ, List.getD_cons_zero, List.set_cons_succ]
            (with_reducible apply AP.k_any); first | (refine AP.sm false rfl ?_ ?_; focus ((repeat' (with_reducible apply And.intro)) <;> (first | exact True.intro | exact rfl | omega | decide | (simp; omega) | (simp; done) | assumption | exact .inl rfl | (refine .inr ?_; simp; try omega)))) | fail "no step"
            all_goals (try simp only [nx, Nat.reduceAdd, Nat.reduceSub, BEq.rfl])
            refine AP.nil ?_
            exact ⟨rfl, rfl⟩
          · intro h1 h2
            simp [depsOk, Region.binds] at h1 h2
            subst h1
            (repeat (obtain ⟨rfl, h2⟩ := h2))
            (try subst h2)
            clear hcl
            simp only [cond_true, cond_false, setT, List.set_cons_succ, List.set_cons_zero, List.getD_cons_succ, List.getD_cons_zero, List.set_cons_succ]
            (with_reducible apply AP.k_any); first | (refine AP.sm false rfl ?_ ?_; focus ((repeat' (with_reducible apply And.intro)) <;> (first | exact True.intro | exact rfl | omega | decide | (simp; omega) | (simp; done) | assumption | exact .inl rfl | (refine .inr ?_; simp; try omega)))) | fail "no step"
            all_goals (try simp only [nx, Nat.reduceAdd, Nat.reduceSub, BEq.rfl])
            refine AP.nil ?_
            exact ⟨rfl, rfl⟩
          · intro h1 h2
            simp [depsOk, Region.binds] at h1 h2
            subst h1
            (repeat (obtain ⟨rfl, h2⟩ := h2))
            (try subst h2)
            clear hcl
            simp only [cond_true, cond_false, setT, List.set_cons_succ, List.set_cons_zero, List.getD_cons_succ, List.getD_cons_zero, List.set_cons_succ]
            (with_reducible apply AP.k_any); first | (refine AP.sm false rfl ?_ ?_; focus ((repeat' (with_reducible apply And.intro)) <;> (first | exact True.intro | exact rfl | omega | decide | (simp; omega) | (simp; done) | assumption | exact .inl rfl | (refine .inr ?_; simp; try omega)))) | (refine AP.el rfl ?_ (by (first | (refine ⟨?_, ?_⟩; assumption; rfl) | exact ⟨mapAt (by (first | omega | (simp; omega) | (simp; done) | assumption)), rfl⟩ | exact ⟨rfl, rfl⟩)) ?_; focus ((repeat' (with_reducible apply And.intro)) <;> (first | exact True.intro | exact rfl | omega | decide | (simp; omega) | (simp; done) | assumption | exact .inl rfl | (refine .inr ?_; simp; try omega)))) | fail "no step"
            all_goals (try simp only [nx, Nat.reduceAdd, Nat.reduceSub, BEq.rfl])
            refine AP.nil ?_
            exact ⟨rfl, rfl⟩
          · intro h1 h2
            simp [depsOk, Region.binds] at h1 h2
            subst h1
            (repeat (obtain ⟨rfl, h2⟩ := h2))
            (try subst h2)
            clear hcl
            simp only [cond_true, cond_false, setT, List.set_cons_succ, List.set_cons_zero, List.getD_cons_succ, List.getD_cons_zero, List.set_cons_succ]
            (with_reducible apply AP.k_any); first | (refine AP.sm false rfl ?_ ?_; focus ((repeat' (with_reducible apply And.intro)) <;> (first | exact True.intro | exact rfl | omega | decide | (simp; omega) | (simp; done) | assumption | exact .inl rfl | (refine .inr ?_; simp; try omega)))) | fail "no step"
            all_goals (try simp only [nx, Nat.reduceAdd, Nat.reduceSub, BEq.rfl])
            refine AP.nil ?_
            exact ⟨rfl, rfl⟩
          · intro h1 h2
            simp [depsOk, Region.binds] at h1 h2
            subst h1
            (repeat (obtain ⟨rfl, h2⟩ := h2))
            (try subst h2)
            clear hcl
            simp only [cond_true, cond_false, setT, List.set_cons_succ, List.set_cons_zero, List.getD_cons_succ, List.getD_cons_zero, List.set_cons_succ]
            (with_reducible apply AP.k_any); first | (refine AP.sm false rfl ?_ ?_; focus ((repeat' (with_reducible apply And.intro)) <;> (first | exact True.intro | exact rfl | omega | decide | (simp; omega) | (simp; done) | assumption | exact .inl rfl | (refine .inr ?_; simp; try omega)))) | fail "no step"
            all_goals (try simp only [nx, Nat.reduceAdd, Nat.reduceSub, BEq.rfl])
            refine AP.nil ?_
            exact ⟨rfl, rfl⟩
          · intro h1 h2
            simp [depsOk, Region.binds] at h1 h2
            subst h1
            (repeat (obtain ⟨rfl, h2⟩ := h2))
            (try subst h2)
            clear hcl
            simp only [cond_true, cond_false, setT, List.set_cons_succ, List.set_cons_zero, List.getD_cons_succ, List.getD_cons_zero, List.set_cons_succ]
            (with_reducible apply AP.k_any); first | (refine AP.sm false rfl ?_ ?_; focus ((repeat' (with_reducible apply And.intro)) <;> (first | exact True.intro | exact rfl | omega | decide | (simp; omega) | (simp; done) | assumption | exact .inl rfl | (refine .inr ?_; simp; try omega)))) | fail "no step"
            all_goals (try simp only [nx, Nat.reduceAdd, Nat.reduceSub, BEq.rfl])
            refine AP.nil ?_
            exact ⟨rfl, rfl⟩
          · intro h1 h2
            simp [depsOk, Region.binds] at h1 h2
            subst h1
            (repeat (obtain ⟨rfl, h2⟩ := h2))
            (try subst h2)
            clear hcl
            simp only [cond_true, cond_false, setT, List.set_cons_succ, List.set_cons_zero, List.getD_cons_succ, List.getD_cons_zero, List.set_cons_succ]
            (with_reducible apply AP.k_any); first | (refine AP.sm false rfl ?_ ?_; focus ((repeat' (with_reducible apply And.intro)) <;> (first | exact True.intro | exact rfl | omega | decide | (simp; omega) | (simp; done) | assumption | exact .inl rfl | (refine .inr ?_; simp; try omega)))) | fail "no step"
            all_goals (try simp only [nx, Nat.reduceAdd, Nat.reduceSub, BEq.rfl])
            refine AP.nil ?_
            exact ⟨rfl, rfl⟩
          · intro h1 h2
            simp [depsOk, Region.binds] at h1 h2
            subst h1
            (repeat (obtain ⟨rfl, h2⟩ := h2))
            (try subst h2)
            clear hcl
            simp only [cond_true, cond_false, setT, List.set_cons_succ, List.set_cons_zero, List.getD_cons_succ, List.getD_cons_zero, List.set_cons_succ]
            (with_reducible apply AP.k_any); first | (refine AP.sm false rfl ?_ ?_; focus ((repeat' (with_reducible apply And.intro)) <;> (first | exact True.intro | exact rfl | omega | decide | (simp; omega) | (simp; done) | assumption | exact .inl rfl | (refine .inr ?_; simp; try omega)))) | fail "no step"
            all_goals (try simp only [nx, Nat.reduceAdd, Nat.reduceSub, BEq.rfl])
            refine AP.nil ?_
            exact ⟨rfl, rfl⟩
          · intro h1 h2
            simp [depsOk, Region.binds] at h1 h2
            subst h1
            (repeat (obtain ⟨rfl, h2⟩ := h2))
            (try subst h2)
            clear hcl
            simp only [cond_true, cond_false, setT, List.set_cons_succ, List.set_cons_zero, List.getD_cons_succ, List.getD_cons_zero, List.set_cons_succ]
            (with_reducible apply AP.k_any); first | (refine AP.sm false rfl ?_ ?_; focus ((repeat' (with_reducible apply And.intro)) <;> (first | exact True.intro | exact rfl | omega | decide | (simp; omega) | (simp; done) | assumption | exact .inl rfl | (refine .inr ?_; simp; try omega)))) | (refine AP.el rfl ?_ (by (first | (refine ⟨?_, ?_⟩; assumption; rfl) | exact ⟨mapAt (by (first | omega | (simp; omega) | (simp; done) | assumption)), rfl⟩ | exact ⟨rfl, rfl⟩)) ?_; focus ((repeat' (with_reducible apply And.intro)) <;> (first | exact True.intro | exact rfl | omega | decide | (simp; omega) | (simp; done) | assumption | exact .inl rfl | (refine .inr ?_; simp; try omega)))) | fail "no step"
            all_goals (try simp only [nx, Nat.reduceAdd, Nat.reduceSub, BEq.rfl])
            refine AP.nil ?_
            exact ⟨rfl, rfl⟩
          · intro h1 h2
            simp [depsOk, Region.binds] at h1 h2
            subst h1
            (repeat (obtain ⟨rfl, h2⟩ := h2))
            (try subst h2)
            clear hcl
            simp only [cond_true, cond_false, setT, List.set_cons_succ, List.set_cons_zero, List.getD_cons_succ, List.getD_cons_zero, List.set_cons_succ]
            (with_reducible apply AP.k_any); first | (refine AP.sm false rfl ?_ ?_; focus ((repeat' (with_reducible apply And.intro)) <;> (first | exact True.intro | exact rfl | omega | decide | (simp; omega) | (simp; done) | assumption | exact .inl rfl | (refine .inr ?_; simp; try omega)))) | fail "no step"
            all_goals (try simp only [nx, Nat.reduceAdd, Nat.reduceSub, BEq.rfl])
            refine AP.nil ?_
            exact ⟨rfl, rfl⟩
          · intro h1 h2
            simp [depsOk, Region.binds] at h1 h2
            subst h1
            (repeat (obtain ⟨rfl, h2⟩ := h2))
            (try subst h2)
            clear hcl
            simp only [cond_true, cond_false, setT, List.set_cons_succ, List.set_cons_zero, List.getD_cons_succ, List.getD_cons_zero, List.set_cons_succ]
            (first
            | ((with_reducible apply AP.k_any); refine AP.C (hcopy) ?_)
            | fail "no arm")
            all_goals (try simp only [nx, Nat.reduceAdd, Nat.reduceSub, BEq.rfl])
            refine AP.nil ?_
            exact ⟨rfl, rfl⟩
          · intro h1 h2
            simp [depsOk, Region.binds] at h1 h2
            subst h1
            (repeat (obtain ⟨rfl, h2⟩ := h2))
            (try subst h2)
            clear hcl
            simp only [cond_true, cond_false, setT, List.set_cons_succ, List.set_cons_zero, List.getD_cons_succ, List.getD_cons_zero, List.set_cons_succ]
            (with_reducible apply AP.k_any); first | (refine AP.sm false rfl ?_ ?_; focus ((repeat' (with_reducible apply And.intro)) <;> (first | exact True.intro | exact rfl | omega | decide | (simp; omega) | (simp; done) | assumption | exact .inl rfl | (refine .inr ?_; simp; try omega)))) | fail "no step"
            all_goals (try simp only [nx, Nat.reduceAdd, Nat.reduceSub, BEq.rfl])
            refine AP.nil ?_
            exact ⟨rfl, rfl⟩
          · intro h1 h2
            simp [depsOk, Region.binds] at h1 h2
            subst h1
            (repeat (obtain ⟨rfl, h2⟩ := h2))
            (try subst h2)
            clear hcl
            simp only [cond_true, cond_false, setT, List.set_cons_succ, List.set_cons_zero, List.getD_cons_succ, List.getD_cons_zero, List.set_cons_succ]
            (with_reducible apply AP.k_any); first | (refine AP.sm false rfl ?_ ?_; focus ((repeat' (with_reducible apply And.intro)) <;> (first | exact True.intro | exact rfl | omega | decide | (simp; omega) | (simp; done) | assumption | exact .inl rfl | (refine .inr ?_; simp; try omega)))) | fail "no step"
            all_goals (try simp only [nx, Nat.reduceAdd, Nat.reduceSub, BEq.rfl])
            refine AP.nil ?_
            exact ⟨rfl, rfl⟩
      simp only [esl]
      repeat' (first
        | ((first
        | ((with_reducible apply AP.k_any); first
                 | refine AP.S ?_
                 | (refine AP.V (fun c hnil => ?_); simp only [nz])
          )
        
        )
          <;> (try simp only [nx, Nat.reduceAdd, Nat.reduceSub, BEq.rfl]))
        | ((with_reducible apply AP.k_nil); first
            | (refine AP.nil (hQ' _ ?_); clear hQ' Q')
            | refine AP.nil ?_)
        | ((with_reducible apply CP.k_reg); refine cp_regG fun Q' hQ' => ?_)
          | (with_reducible apply CP.k_reg1; refine cp_region ?_)
          | ((with_reducible apply CP.k_cond); first | refine cp_condT rfl ?_ | refine cp_condF rfl ?_ | refine cp_cond rfl (fun hc => ?_) (fun hc => ?_))
          | refine CP.go ?_
          | (simp only [List.append_eq, List.cons_append, List.nil_append]))
      (exact RetQ.A [(0, 0)] (by exact ⟨rfl, rfl⟩))
  · have e1 : someF n ⟨b, p, e⟩ = (([], false), ⟨b, p, e⟩) := by simp [someF, he]
    rw [e1]
    refine AC.N Try.func65 Try.ntmps65 ?_
    intro X
    simp only [nx, Nat.reduceAdd, Nat.reduceSub, BEq.rfl]
    repeat' (first
      | ((first
      | ((with_reducible apply AP.k_any); first
               | refine AP.S ?_
               | (refine AP.V (fun c hnil => ?_); simp only [nz])
        )
      
      | ((with_reducible apply AQ.k_any); first
                      | refine AQ.S ?_
        )
      )
        <;> (try simp only [nx, Nat.reduceAdd, Nat.reduceSub, BEq.rfl]))
      | ((with_reducible apply AP.k_nil); first
          | (refine AP.nil (hQ' _ ?_); clear hQ' Q')
          | refine AP.nil ?_)
      | ((with_reducible apply AQ.k_nil); first | (refine AQ.nil (hQ' _ ?_); clear hQ' Q') | refine AQ.nil ?_)
      | ((with_reducible apply CP.k_drw); refine cp_drw (by kernel_rfl) (by kernel_rfl) fun Q' hQ' => ?_)
      | ((with_reducible apply CP.k_drw1); refine cp_draw (by kernel_rfl) (by kernel_rfl) ?_)
      | ((with_reducible apply CP.k_reg); refine cp_regG fun Q' hQ' => ?_)
        | (with_reducible apply CP.k_reg1; refine cp_region ?_)
        | ((with_reducible apply CP.k_cond); first | refine cp_condT rfl ?_ | refine cp_condF rfl ?_ | refine cp_cond rfl (fun hc => ?_) (fun hc => ?_))
        | refine CP.go ?_
        | (simp only [List.append_eq, List.cons_append, List.nil_append]))
    all_goals first
      | (exfalso; simp at *; omega)
      | (exact RetQ.A [(0, 0)] (by exact ⟨rfl, rfl⟩))
end Go.Proofs.Ytnjfchigdpifmaa

namespace Go.Proofs.Ytnjfchigdpifmaa
set_option linter.unusedVariables false
set_option linter.unusedSimpArgs false
open Go.RowKit
set_option maxRecDepth 100000
abbrev St := Int × List UInt8
def newF (b : List UInt8) : Rf := if 65536 < b.length then ⟨[], 0, 3⟩ else ⟨b, 0, 0⟩
def byteF (s : Rf) : UInt8 × Rf := (if (someF 1 s).1.2 then (someF 1 s).1.1.headD 0 else 0, (someF 1 s).2)
def intF (s : Rf) : Int × Rf := (if (someF 8 s).1.2 then toI (beN (someF 8 s).1.1) else 0, (someF 8 s).2)
def Rf.spoil (s : Rf) : Rf := ⟨s.b, s.at_, 40⟩
def flagF (s : Rf) : Bool × Rf := ((byteF s).1 == 1, if 1 < (byteF s).1.toNat then (byteF s).2.spoil else (byteF s).2)
def bytesF (s : Rf) : List UInt8 × Rf :=
  if (someF 4 s).1.2 then (if 65536 < beN (someF 4 s).1.1 then ([], (someF 4 s).2.spoil) else ((someF (beN (someF 4 s).1.1) (someF 4 s).2).1.1, (someF (beN (someF 4 s).1.1) (someF 4 s).2).2)) else ([], (someF 4 s).2)
def Rf.left (s : Rf) : Nat := s.b.length - s.at_
def countF (m : Int) (s : Rf) : Int × Rf :=
  if (intF s).2.bad = 0 then (if (intF s).1 < 0 ∨ m < (intF s).1 ∨ ((intF s).2.left : Int) < (intF s).1 then (0, (intF s).2.spoil) else intF s) else (0, (intF s).2)
def endF (s : Rf) : Int := if s.bad = 0 ∧ s.at_ < s.b.length then 40 else s.bad
theorem someF_len {n : Nat} {s : Rf} (hs : s.ok) (h : (someF n s).1.2 = true) : (someF n s).1.1.length = n := by
  unfold someF at h ⊢
  split
  · rename_i h1; simp [h1] at h
  · split
    · rename_i h1 h2; simp [h1, h2] at h
    · simp; omega
theorem someF_nil {n : Nat} {s : Rf} (h : (someF n s).1.2 = false) : (someF n s).1.1 = [] := by
  unfold someF at h ⊢
  split
  · rfl
  · split
    · rfl
    · rename_i h1 h2; simp [h1, h2] at h
theorem someF_ok {n : Nat} {s : Rf} (hs : s.ok) : (someF n s).2.ok := by
  unfold someF
  split
  · exact hs
  · split
    · exact hs
    · exact ⟨by have := hs.1; dsimp only; omega, hs.2⟩
theorem someF_st {n : Nat} {s : Rf} (hs : s.ok) : (someF n s).2.st = (if (someF n s).1.2 then (0, s.st.2.drop n) else ((someF n s).2.bad, [])) ∧ ((someF n s).1.2 = true → s.bad = 0 ∧ (someF n s).2.bad = 0 ∧ (someF n s).1.1 = s.st.2.take n ∧ n ≤ s.st.2.length) ∧ ((someF n s).1.2 = false → ((s.bad ≠ 0 ∧ (someF n s).2 = s) ∨ (s.bad = 0 ∧ (someF n s).2.bad = 40 ∧ s.st.2.length < n))) := by
  obtain ⟨b, p, e⟩ := s
  by_cases he : e = 0
  · subst he
    by_cases hl : b.length - p < n
    · simp [someF, hl, Rf.st]
    · simp [someF, hl, Rf.st]
      omega
  · simp [someF, he, Rf.st]
theorem take_some {α : Type} (z : α) (g : List UInt8 → α × Bool) (n : Nat) {s : Rf} (hs : s.ok) {n' : Int} (hn' : n' = n) :
    takeS z g n' s.st = if (someF n s).1.2 then (if (g (someF n s).1.1).2 = true then ((g (someF n s).1.1).1, (someF n s).2.st) else (z, (40, []))) else (z, (someF n s).2.st) := by
  subst hn'
  obtain ⟨h1, h2, h3⟩ := someF_st (n := n) hs
  cases h : (someF n s).1.2 with
  | true =>
    obtain ⟨a1, a2, a3, a4⟩ := h2 h
    rw [h] at h1
    rw [h1]
    have e1 : s.st.1 = 0 := a1
    simp only [takeS, e1, if_true]
    rw [if_neg (by simp), if_neg (by omega), Int.toNat_natCast, a3]
  | false =>
    rw [h] at h1
    rw [h1]
    rcases h3 h with ⟨a1, a2⟩ | ⟨a1, a2, a3⟩
    · rw [a2]
      simp [takeS, Rf.st, a1]
    · have e1 : s.st.1 = 0 := a1
      simp only [takeS, e1]
      rw [if_neg (by simp), if_pos (by omega), a2]
      simp
def Sim {α : Type} (f : Rf → α × Rf) (r : St → α × St) : Prop := ∀ s : Rf, s.ok → (f s).1 = (r s.st).1 ∧ (f s).2.st = (r s.st).2 ∧ (f s).2.ok
theorem spoil_st (s : Rf) : s.spoil.st = (40, []) := by simp [Rf.spoil, Rf.st]
theorem sim_byte : Sim byteF byteR := fun s hs => by
  have h := take_some (0 : UInt8) byteG 1 hs (n' := 1) rfl
  refine ⟨?_, ?_, someF_ok hs⟩ <;> (unfold byteF byteR; rw [h]) <;> (cases hb : (someF 1 s).1.2 <;> simp [byteG, hb])
theorem sim_int : Sim intF intR := fun s hs => by
  have h := take_some (0 : Int) intG 8 hs (n' := 8) rfl
  refine ⟨?_, ?_, someF_ok hs⟩ <;> (unfold intF intR; rw [h]) <;> (cases hb : (someF 8 s).1.2 <;> simp [intG, hb])
theorem sim_flag : Sim flagF flagR := fun s hs => by
  have h := take_some false flagG 1 hs (n' := 1) rfl
  refine ⟨?_, ?_, ?_⟩
  · unfold flagF flagR byteF
    rw [h]
    cases hb : (someF 1 s).1.2
    · simp
    · by_cases h1 : (someF 1 s).1.1.headD 0 ≤ 1
      · simp only [flagG, h1, decide_true, if_true]
      · simp only [flagG, h1]
        simp
        rintro h2
        simp [h2] at h1
  · unfold flagF flagR byteF
    rw [h]
    cases hb : (someF 1 s).1.2
    · simp
    · by_cases h1 : (someF 1 s).1.1.headD 0 ≤ 1
      · have h2 : ¬ 1 < ((someF 1 s).1.1.headD 0).toNat := by rw [UInt8.le_iff_toNat_le] at h1; simpa using h1
        simp only [flagG, h1]
        simp [-List.headD_eq_head?_getD, h2]
      · have h2 : 1 < ((someF 1 s).1.1.headD 0).toNat := by rw [UInt8.le_iff_toNat_le] at h1; simp at h1 ⊢; omega
        simp only [flagG, h1]
        simp [-List.headD_eq_head?_getD, h2, spoil_st]
  · unfold flagF
    dsimp only
    split
    · exact someF_ok (n := 1) hs
    · exact someF_ok (n := 1) hs
theorem sim_bytes : Sim bytesF bytesR := fun s hs => by
  have h := take_some (0 : Int) lenG 4 hs (n' := 4) rfl
  have hok := someF_ok (n := 4) hs
  have hl : lenR s.st = if (someF 4 s).1.2 then (if 65536 < beN (someF 4 s).1.1 then ((0 : Int), ((40 : Int), ([] : List UInt8))) else ((beN (someF 4 s).1.1 : Int), (someF 4 s).2.st)) else (0, (someF 4 s).2.st) := by
    unfold lenR
    rw [h]
    cases hb : (someF 4 s).1.2
    · simp
    · by_cases hn : 65536 < beN (someF 4 s).1.1
      · have h2 : ¬ beN (someF 4 s).1.1 ≤ 65536 := by omega
        simp [lenG, hn, h2]
      · have h2 : beN (someF 4 s).1.1 ≤ 65536 := by omega
        simp [lenG, hn, h2]
  unfold bytesF bytesR
  rw [hl]
  cases hb : (someF 4 s).1.2
  · obtain ⟨h1, h2, h3⟩ := someF_st (n := 4) hs
    rw [hb] at h1
    simp only [Bool.false_eq_true, if_false]
    have hbad : (someF 4 s).2.bad ≠ 0 := by
      rcases h3 hb with ⟨a1, a2⟩ | ⟨a1, a2, a3⟩
      · rw [a2]; exact a1
      · rw [a2]; decide
    have e : takeS ([] : List UInt8) bytesG 0 (someF 4 s).2.st = ([], (someF 4 s).2.st) := by simp [takeS, Rf.st, hbad]
    rw [e]
    exact ⟨rfl, rfl, hok⟩
  · by_cases hn : 65536 < beN (someF 4 s).1.1
    · simp only [if_true, if_pos hn]
      refine ⟨?_, ?_, hok⟩
      · simp [takeS]
      · simp [takeS, spoil_st]
    · simp only [if_true, if_neg hn]
      have h4 := take_some ([] : List UInt8) bytesG (beN (someF 4 s).1.1) hok rfl
      rw [h4]
      refine ⟨?_, ?_, someF_ok hok⟩
      · cases hb2 : (someF (beN (someF 4 s).1.1) (someF 4 s).2).1.2
        · simp [bytesG, someF_nil hb2]
        · simp [bytesG]
      · cases hb2 : (someF (beN (someF 4 s).1.1) (someF 4 s).2).1.2 <;> simp [bytesG]
theorem st_left {s : Rf} (hs : s.ok) (h : s.bad = 0) : s.st.2.length = s.left := by simp [Rf.st, h, Rf.left]
theorem sim_count (m : Int) : Sim (countF m) (countR m) := fun s hs => by
  have h := take_some (0 : Int) (countG m (leftR s.st - 8)) 8 hs (n' := 8) rfl
  have hok := someF_ok (n := 8) hs
  obtain ⟨h1, h2, h3⟩ := someF_st (n := 8) hs
  unfold countF countR
  rw [h]
  cases hb : (someF 8 s).1.2
  · have hbad : (intF s).2.bad ≠ 0 := by
      show (someF 8 s).2.bad ≠ 0
      rcases h3 hb with ⟨a1, a2⟩ | ⟨a1, a2, a3⟩
      · rw [a2]; exact a1
      · rw [a2]; decide
    simp only [Bool.false_eq_true, if_false, if_neg hbad]
    refine ⟨?_, ?_, ?_⟩ <;> first | trivial | rfl | exact hok
  · obtain ⟨a1, a2, a3, a4⟩ := h2 hb
    have hbad : (intF s).2.bad = 0 := a2
    have e1 : (intF s).1 = toI (beN (someF 8 s).1.1) := by simp [intF, hb]
    have e2 : leftR s.st - 8 = ((intF s).2.left : Int) := by
      have g1 := st_left hs a1
      have g2 := st_left (s := (someF 8 s).2) hok a2
      rw [hb] at h1
      rw [h1] at g2
      simp at g2
      show leftR s.st - 8 = ((someF 8 s).2.left : Int)
      rw [leftR, show s.st.1 = 0 from a1, if_pos rfl]
      omega
    rw [e2]
    simp only [if_true, if_pos hbad]
    by_cases hc : (intF s).1 < 0 ∨ m < (intF s).1 ∨ ((intF s).2.left : Int) < (intF s).1
    · have hg : (countG m ((intF s).2.left : Int) (someF 8 s).1.1).2 = false := by
        cases hx : (countG m ((intF s).2.left : Int) (someF 8 s).1.1).2 with
        | false => rfl
        | true => simp [countG] at hx; rw [e1] at hc; omega
      rw [if_pos hc, hg]
      exact ⟨rfl, spoil_st _, hok⟩
    · have hg : (countG m ((intF s).2.left : Int) (someF 8 s).1.1).2 = true := by
        rw [e1] at hc
        simp [countG]
        omega
      rw [if_neg hc, hg]
      exact ⟨e1, rfl, hok⟩
theorem sim_end (s : Rf) (hs : s.ok) : endF s = endR s.st := by
  obtain ⟨b, p, e⟩ := s
  obtain ⟨h1, h2⟩ := hs
  dsimp only at h1 h2
  by_cases he : e = 0
  · subst he
    simp [endF, endR, Rf.st]
    by_cases hp : p < b.length
    · rw [if_pos hp, if_neg (by omega)]
    · rw [if_neg hp, if_pos (by omega)]
  · simp [endF, endR, Rf.st, he]
theorem sim_new (b : List UInt8) (hb : b.length ≤ 100000000) : (newF b).st = newR b ∧ (newF b).ok := by
  unfold newF newR
  split
  · exact ⟨by simp [Rf.st], by simp [Rf.ok]⟩
  · exact ⟨by simp [Rf.st], by simp [Rf.ok]; omega⟩
end Go.Proofs.Ytnjfchigdpifmaa

namespace Go.Proofs.Ytnjfchigdpifmaa
set_option linter.unusedVariables false
set_option linter.unusedSimpArgs false
set_option maxHeartbeats 8000000
open Go.RowKit
set_option maxRecDepth 100000
theorem dnew_ac (b : List UInt8) (hb : b.length ≤ 100000000) : AC Try.prog 33 [bs none b] [] (fun v bs' => v = .bp 0 0 0 ∧ bs' = [fB (newF b)]) := by
  by_cases h : 65536 < b.length
  · have e : newF b = ⟨[], 0, 3⟩ := by simp [newF, h]
    rw [e]
    refine AC.N Try.func33 Try.ntmps33 ?_
    intro X
    simp only [nx, Nat.reduceAdd, Nat.reduceSub, BEq.rfl]
    repeat' (first
      | ((first
      | ((with_reducible apply AP.k_any); first
               | refine AP.S ?_
        )
      
      )
        <;> (try simp only [nx, Nat.reduceAdd, Nat.reduceSub, BEq.rfl]))
      | ((with_reducible apply AP.k_nil); first
          | (refine AP.nil (hQ' _ ?_); clear hQ' Q')
          | refine AP.nil ?_)
      | ((with_reducible apply CP.k_reg); refine cp_regG fun Q' hQ' => ?_)
        | (with_reducible apply CP.k_reg1; refine cp_region ?_)
        | ((with_reducible apply CP.k_cond); first | refine cp_condT rfl ?_ | refine cp_condF rfl ?_ | refine cp_cond rfl (fun hc => ?_) (fun hc => ?_))
        | refine CP.go ?_
        | (simp only [List.append_eq, List.cons_append, List.nil_append]))
    · (exact RetQ.A [(0, 1)] (by exact ⟨rfl, rfl⟩))
    · exfalso; simp at *; omega
  · have e : newF b = ⟨b, 0, 0⟩ := by simp [newF, h]
    rw [e]
    refine AC.N Try.func33 Try.ntmps33 ?_
    intro X
    simp only [nx, Nat.reduceAdd, Nat.reduceSub, BEq.rfl]
    repeat' (first
      | ((first
      | ((with_reducible apply AP.k_any); first
               | refine AP.S ?_
        )
      
      )
        <;> (try simp only [nx, Nat.reduceAdd, Nat.reduceSub, BEq.rfl]))
      | ((with_reducible apply AP.k_nil); first
          | (refine AP.nil (hQ' _ ?_); clear hQ' Q')
          | refine AP.nil ?_)
      | ((with_reducible apply CP.k_reg); refine cp_regG fun Q' hQ' => ?_)
        | (with_reducible apply CP.k_reg1; refine cp_region ?_)
        | ((with_reducible apply CP.k_cond); first | refine cp_condT rfl ?_ | refine cp_condF rfl ?_ | refine cp_cond rfl (fun hc => ?_) (fun hc => ?_))
        | refine CP.go ?_
        | (simp only [List.append_eq, List.cons_append, List.nil_append]))
    · exfalso; simp at *; omega
    · (exact RetQ.A [(0, 1)] (by exact ⟨rfl, rfl⟩))
theorem dintR_ac (s : Rf) (hs : s.ok) : AC Try.prog 34 [.bp 0 0 0] [fB s] (fun v bs' => v = I (intF s).1 ∧ bs' = [fB (intF s).2]) := by
  have h := some_ac 8 s hs (by omega)
  have hl := someF_len (n := 8) hs
  unfold intF
  generalize someF 8 s = r at h hl ⊢
  obtain ⟨⟨l, o⟩, s'⟩ := r
  dsimp only at h hl ⊢
  cases o with
  | false =>
    simp only [Bool.false_eq_true, if_false]
    refine AC.N Try.func34 Try.ntmps34 ?_
    intro X
    simp only [nx, Nat.reduceAdd, Nat.reduceSub, BEq.rfl]
    repeat' (first
      | ((first
      | ((with_reducible apply AP.k_any); first
               | refine AP.S ?_
        )
      | ((with_reducible apply AP.k_any); refine AP.CB [(0, 0)] 0 (h) ?_)
      )
        <;> (try simp only [nx, Nat.reduceAdd, Nat.reduceSub, BEq.rfl]))
      | ((with_reducible apply AP.k_nil); first
          | (refine AP.nil (hQ' _ ?_); clear hQ' Q')
          | refine AP.nil ?_)
      | ((with_reducible apply CP.k_reg); refine cp_regG fun Q' hQ' => ?_)
        | (with_reducible apply CP.k_reg1; refine cp_region ?_)
        | ((with_reducible apply CP.k_cond); first | refine cp_condT rfl ?_ | refine cp_condF rfl ?_ | refine cp_cond rfl (fun hc => ?_) (fun hc => ?_))
        | refine CP.go ?_
        | (simp only [List.append_eq, List.cons_append, List.nil_append]))
    (exact RetQ.A [(0, 0)] (by exact ⟨rfl, rfl⟩))
  | true =>
    have hd := dload_ac l 8 (by omega) (hl rfl)
    simp only [if_true]
    refine AC.N Try.func34 Try.ntmps34 ?_
    intro X
    simp only [nx, Nat.reduceAdd, Nat.reduceSub, BEq.rfl]
    repeat' (first
      | ((first
      | ((with_reducible apply AP.k_any); first
               | refine AP.S ?_
        )
      | ((with_reducible apply AP.k_any); refine AP.CB [(0, 0)] 0 (h) ?_)
        | ((with_reducible apply AP.k_any); refine AP.C (hd) ?_)
      )
        <;> (try simp only [nx, Nat.reduceAdd, Nat.reduceSub, BEq.rfl]))
      | ((with_reducible apply AP.k_nil); first
          | (refine AP.nil (hQ' _ ?_); clear hQ' Q')
          | refine AP.nil ?_)
      | ((with_reducible apply CP.k_reg); refine cp_regG fun Q' hQ' => ?_)
        | (with_reducible apply CP.k_reg1; refine cp_region ?_)
        | ((with_reducible apply CP.k_cond); first | refine cp_condT rfl ?_ | refine cp_condF rfl ?_ | refine cp_cond rfl (fun hc => ?_) (fun hc => ?_))
        | refine CP.go ?_
        | (simp only [List.append_eq, List.cons_append, List.nil_append]))
    (exact RetQ.A [(0, 0)] (by exact ⟨rfl, rfl⟩))
theorem dbytesR_ac (s : Rf) (hs : s.ok) : AC Try.prog 35 [.bp 0 0 0] [fB s] (fun v bs' => v = bs none (bytesF s).1 ∧ bs' = [fB (bytesF s).2]) := by
  have h := some_ac 4 s hs (by omega)
  have hl := someF_len (n := 4) hs
  have hok := someF_ok (n := 4) hs
  unfold bytesF
  generalize someF 4 s = r at h hl hok ⊢
  obtain ⟨⟨l, o⟩, s'⟩ := r
  dsimp only at h hl hok ⊢
  cases o with
  | false =>
    simp only [Bool.false_eq_true, if_false]
    refine AC.N Try.func35 Try.ntmps35 ?_
    intro X
    simp only [nx, Nat.reduceAdd, Nat.reduceSub, BEq.rfl]
    repeat' (first
      | ((first
      | ((with_reducible apply AP.k_any); first
               | refine AP.S ?_
        )
      | ((with_reducible apply AP.k_any); refine AP.CB [(0, 0)] 0 (h) ?_)
      )
        <;> (try simp only [nx, Nat.reduceAdd, Nat.reduceSub, BEq.rfl]))
      | ((with_reducible apply AP.k_nil); first
          | (refine AP.nil (hQ' _ ?_); clear hQ' Q')
          | refine AP.nil ?_)
      | ((with_reducible apply CP.k_reg); refine cp_regG fun Q' hQ' => ?_)
        | (with_reducible apply CP.k_reg1; refine cp_region ?_)
        | ((with_reducible apply CP.k_cond); first | refine cp_condT rfl ?_ | refine cp_condF rfl ?_ | refine cp_cond rfl (fun hc => ?_) (fun hc => ?_))
        | refine CP.go ?_
        | (simp only [List.append_eq, List.cons_append, List.nil_append]))
    (exact RetQ.A [(0, 0)] (by exact ⟨rfl, rfl⟩))
  | true =>
    have hd := dload_ac l 4 (by omega) (hl rfl)
    have hlt := beN_lt l
    rw [hl rfl] at hlt
    simp only [if_true]
    by_cases hn : 65536 < beN l
    · simp only [if_pos hn]
      refine AC.N Try.func35 Try.ntmps35 ?_
      intro X
      simp only [nx, Nat.reduceAdd, Nat.reduceSub, BEq.rfl]
      repeat' (first
        | ((first
        | ((with_reducible apply AP.k_any); first
                 | refine AP.S ?_
          )
        | ((with_reducible apply AP.k_any); refine AP.CB [(0, 0)] 0 (h) ?_)
            | ((with_reducible apply AP.k_any); refine AP.C (hd) ?_)
        )
          <;> (try simp only [nx, Nat.reduceAdd, Nat.reduceSub, BEq.rfl]))
        | ((with_reducible apply AP.k_nil); first
            | (refine AP.nil (hQ' _ ?_); clear hQ' Q')
            | refine AP.nil ?_)
        | ((with_reducible apply CP.k_reg); refine cp_regG fun Q' hQ' => ?_)
          | (with_reducible apply CP.k_reg1; refine cp_region ?_)
          | ((with_reducible apply CP.k_cond); first | refine cp_condT rfl ?_ | refine cp_condF rfl ?_ | refine cp_cond rfl (fun hc => ?_) (fun hc => ?_))
          | refine CP.go ?_
          | (simp only [List.append_eq, List.cons_append, List.nil_append]))
      · (exact RetQ.A [(0, 0)] (by exact ⟨rfl, rfl⟩))
      · exfalso; simp at *; omega
    · simp only [if_neg hn]
      have h4 := some_ac (beN l) s' hok (by omega)
      have hw : IntKind.i64.wrap (beN l : Int) = (beN l : Int) := wrap_i64 (by omega) (by omega)
      rw [← hw] at h4
      refine AC.N Try.func35 Try.ntmps35 ?_
      intro X
      simp only [nx, Nat.reduceAdd, Nat.reduceSub, BEq.rfl]
      repeat' (first
        | ((first
        | ((with_reducible apply AP.k_any); first
                 | refine AP.S ?_
          )
        | ((with_reducible apply AP.k_any); refine AP.CB [(0, 0)] 0 (h) ?_)
            | ((with_reducible apply AP.k_any); refine AP.C (hd) ?_)
            | ((with_reducible apply AP.k_any); refine AP.CB [(0, 0)] 0 (h4) ?_)
        )
          <;> (try simp only [nx, Nat.reduceAdd, Nat.reduceSub, BEq.rfl]))
        | ((with_reducible apply AP.k_nil); first
            | (refine AP.nil (hQ' _ ?_); clear hQ' Q')
            | refine AP.nil ?_)
        | ((with_reducible apply CP.k_reg); refine cp_regG fun Q' hQ' => ?_)
          | (with_reducible apply CP.k_reg1; refine cp_region ?_)
          | ((with_reducible apply CP.k_cond); first | refine cp_condT rfl ?_ | refine cp_condF rfl ?_ | refine cp_cond rfl (fun hc => ?_) (fun hc => ?_))
          | refine CP.go ?_
          | (simp only [List.append_eq, List.cons_append, List.nil_append]))
      · exfalso; simp at *; omega
      · (exact RetQ.A [(0, 0)] (by exact ⟨rfl, rfl⟩))
theorem dend_ac (s : Rf) : AC Try.prog 37 [.bp 0 0 0] [fB s] (fun v bs' => v = I (endF s) ∧ bs' = [fB s]) := by
  refine AC.N Try.func37 Try.ntmps37 ?_
  intro X
  simp only [nx, Nat.reduceAdd, Nat.reduceSub, BEq.rfl]
  repeat' (first
    | ((first
    | ((with_reducible apply AP.k_any); first
             | refine AP.S ?_
             | (refine AP.Y ?_; dsimp only) | refine AP.G (fun hg => ?_) (fun hg => ?_)
             | (refine AP.V (fun c hnil => ?_); simp only [nz])
      )
    
    | ((with_reducible apply AQ.k_any); first
                    | refine AQ.S ?_
                    | (refine AQ.Y ?_; dsimp only) | refine AQ.G (fun hg => ?_) (fun hg => ?_)
      )
    )
      <;> (try simp only [nx, Nat.reduceAdd, Nat.reduceSub, BEq.rfl]))
    | ((with_reducible apply AP.k_nil); first
        | (refine AP.nil (hQ' _ ?_); clear hQ' Q')
        | refine AP.nil ?_)
    | ((with_reducible apply AQ.k_nil); first | (refine AQ.nil (hQ' _ ?_); clear hQ' Q') | refine AQ.nil ?_)
    | ((with_reducible apply CP.k_drw); refine cp_drw (by kernel_rfl) (by kernel_rfl) fun Q' hQ' => ?_)
    | ((with_reducible apply CP.k_drw1); refine cp_draw (by kernel_rfl) (by kernel_rfl) ?_)
    | ((with_reducible apply CP.k_reg); refine cp_regG fun Q' hQ' => ?_)
      | (with_reducible apply CP.k_reg1; refine cp_region ?_)
      | ((with_reducible apply CP.k_cond); first | refine cp_condT rfl ?_ | refine cp_condF rfl ?_ | refine cp_cond rfl (fun hc => ?_) (fun hc => ?_))
      | refine CP.go ?_
      | (simp only [List.append_eq, List.cons_append, List.nil_append]))
  all_goals (refine RetQ.B [(0, 0)] ?_; (try dsimp only [resV, List.getD_cons_succ, List.getD_cons_zero]); ((refine ⟨?_, rfl⟩; simp at *; simp [endF, *]; try omega)))
end Go.Proofs.Ytnjfchigdpifmaa

namespace Go.Proofs.Ytnjfchigdpifmaa
set_option linter.unusedVariables false
set_option linter.unusedSimpArgs false
set_option maxHeartbeats 8000000
open Go.RowKit
set_option maxRecDepth 100000
abbrev z32 : List UInt8 := List.replicate 32 0
def tagG (b : List UInt8) : List UInt8 × Bool := (b, true)
def tagR (st : Int × List UInt8) : List UInt8 × (Int × List UInt8) := takeS z32 tagG 32 st
theorem rtag1_ac (b : List UInt8) (h : b.length = 32) : AC Try.prog 63 [bs none b] [] (fun v bs' => v = .tu [tg (tagG b).1, B (tagG b).2] ∧ bs' = []) := by
  dsimp only [tagG]
  rw [ex32 h]
  refine AC.N Try.func63 Try.ntmps63 ?_
  intro X
  simp only [nx, Nat.reduceAdd, Nat.reduceSub, BEq.rfl]
  repeat' (first
    | ((first
    | ((with_reducible apply AP.k_any); first
            | refine AP.S ?_
            | refine AP.E ?_
            | refine AP.T ?_
            | refine AP.A ?_ | refine AP.AB 0 ?_ | refine AP.AB 1 ?_ | refine AP.AL ?_
            | refine AP.SA ?_)
    ) <;> (try simp only [nx, Nat.reduceAdd, Nat.reduceSub, BEq.rfl]))
    | ((with_reducible apply AP.k_nil); first | (refine AP.nil (hQ' _ ?_); clear hQ' Q') | refine AP.nil ?_)
    | ((with_reducible apply CP.k_reg); refine cp_regG fun Q' hQ' => ?_)
      | (with_reducible apply CP.k_reg1; refine cp_region ?_)
      | ((with_reducible apply CP.k_cond); first | refine cp_condT rfl ?_ | refine cp_condF rfl ?_ | refine cp_cond rfl (fun hc => ?_) (fun hc => ?_))
      | refine CP.go ?_
      | (simp only [List.append_eq, List.cons_append, List.nil_append]))
  (exact RetQ.A [] (by exact ⟨rfl, rfl⟩))
theorem take6_ac  (f : Nat) (g : List UInt8 → List UInt8 × Bool) (n : Int) (st : Int × List UInt8) (hst : st.2.length ≤ 100000000) (hf : ∀ b : List UInt8, b.length = n.toNat → b.length ≤ st.2.length → AC Try.prog f [bs none b] [] (fun v bs' => v = .tu [tg (g b).1, B (g b).2] ∧ bs' = [])) :
    AC Try.prog 62 [.bp 0 0 0, I n, .fn f []] [rB st] (fun v bs' => v = tg (takeS z32 g n st).1 ∧ bs' = [rB (takeS z32 g n st).2]) := by
  obtain ⟨e, b⟩ := st
  by_cases he : e = 0
  · subst he
    by_cases hn : n < 0 ∨ (b.length : Int) < n
    · have ht : takeS z32 g n (0, b) = (z32, (40, [])) := by simp only [takeS, hn]; simp
      rw [ht]
      refine AC.N Try.func62 Try.ntmps62 ?_
      intro X
      simp only [nx, Nat.reduceAdd, Nat.reduceSub, BEq.rfl]
      repeat' (first
        | ((first
        | ((with_reducible apply AP.k_any); first
                 | refine AP.S ?_
                 | (refine AP.Y ?_; dsimp only) | refine AP.G (fun hg => ?_) (fun hg => ?_)
          )
        | ((with_reducible apply AP.k_any); refine AP.CB [(0, 0)] 0 (fine_ac (0, b)) ?_)
            | ((with_reducible apply AP.k_any); refine AP.CB [(0, 0)] 0 (rbad_ac (0, b)) ?_)
        )
          <;> (try simp only [nx, Nat.reduceAdd, Nat.reduceSub, BEq.rfl]))
        | ((with_reducible apply AP.k_nil); first
            | (refine AP.nil (hQ' _ ?_); clear hQ' Q')
            | refine AP.nil ?_)
        | ((with_reducible apply CP.k_reg); refine cp_regG fun Q' hQ' => ?_)
          | (with_reducible apply CP.k_reg1; refine cp_region ?_)
          | ((with_reducible apply CP.k_cond); first | refine cp_condT rfl ?_ | refine cp_condF rfl ?_ | refine cp_cond rfl (fun hc => ?_) (fun hc => ?_))
          | refine CP.go ?_
          | (simp only [List.append_eq, List.cons_append, List.nil_append]))
      all_goals first
        | (exfalso; simp at *; done)
        | (exfalso; simp at *; omega)
        | (exact RetQ.A [(0, 0)] (by exact ⟨rfl, rfl⟩))
    · have hl : (b.take n.toNat).length = n.toNat := by simp; omega
      have hf' := hf (b.take n.toNat) hl (by rw [List.length_take]; exact Nat.min_le_right _ _)
      have htk : List.take (b.length - n.toNat) (List.drop n.toNat b) = List.drop n.toNat b := List.take_of_length_le (by simp)
      have hn0 : 0 ≤ n := by omega
      have hn1 : n ≤ (b.length : Int) := by omega
      have hm : n ≤ ((b.map eB).length : Int) := by simp; omega
      have ht : takeS z32 g n (0, b) = if (g (b.take n.toNat)).2 = true then ((g (b.take n.toNat)).1, (0, b.drop n.toNat)) else (z32, (40, [])) := by simp only [takeS, hn]; simp
      rw [ht]
      cases hg2 : (g (b.take n.toNat)).2 with
      | true =>
        rw [hg2] at hf'
        simp only [if_true]
        refine AC.N Try.func62 Try.ntmps62 ?_
        intro X
        simp only [nx, Nat.reduceAdd, Nat.reduceSub, BEq.rfl]
        repeat' (first
          | ((first
          | ((with_reducible apply AP.k_any); first
                   | refine AP.S ?_
                   | (refine AP.Y ?_; dsimp only) | refine AP.G (fun hg => ?_) (fun hg => ?_)
            )
          | ((with_reducible apply AP.k_any); refine AP.CB [(0, 0)] 0 (fine_ac (0, b)) ?_)
                | ((with_reducible apply AP.k_any); refine AP.C hf' ?_)
                | ((with_reducible apply AP.k_any); refine AP.CB [(0, 0)] 0 (rbad_ac (0, b)) ?_)
          )
            <;> (try simp only [nx, Nat.reduceAdd, Nat.reduceSub, BEq.rfl]))
          | ((with_reducible apply AP.k_nil); first
              | (refine AP.nil (hQ' _ ?_); clear hQ' Q')
              | refine AP.nil ?_)
          | ((with_reducible apply CP.k_reg); refine cp_regG fun Q' hQ' => ?_)
            | (with_reducible apply CP.k_reg1; refine cp_region ?_)
            | ((with_reducible apply CP.k_cond); first | refine cp_condT rfl ?_ | refine cp_condF rfl ?_ | refine cp_cond rfl (fun hc => ?_) (fun hc => ?_))
            | refine CP.go ?_
            | (simp only [List.append_eq, List.cons_append, List.nil_append]))
        all_goals first
          | (exfalso; simp at *; done)
          | (exfalso; simp at *; omega)
          | (simp only [htk]
             (exact RetQ.A [(0, 0)] (by exact ⟨rfl, rfl⟩)))
      | false =>
        rw [hg2] at hf'
        simp only [Bool.false_eq_true, if_false]
        refine AC.N Try.func62 Try.ntmps62 ?_
        intro X
        simp only [nx, Nat.reduceAdd, Nat.reduceSub, BEq.rfl]
        repeat' (first
          | ((first
          | ((with_reducible apply AP.k_any); first
                   | refine AP.S ?_
                   | (refine AP.Y ?_; dsimp only) | refine AP.G (fun hg => ?_) (fun hg => ?_)
            )
          | ((with_reducible apply AP.k_any); refine AP.CB [(0, 0)] 0 (fine_ac (0, b)) ?_)
                | ((with_reducible apply AP.k_any); refine AP.C hf' ?_)
                | ((with_reducible apply AP.k_any); refine AP.CB [(0, 0)] 0 (rbad_ac (0, b)) ?_)
          )
            <;> (try simp only [nx, Nat.reduceAdd, Nat.reduceSub, BEq.rfl]))
          | ((with_reducible apply AP.k_nil); first
              | (refine AP.nil (hQ' _ ?_); clear hQ' Q')
              | refine AP.nil ?_)
          | ((with_reducible apply CP.k_reg); refine cp_regG fun Q' hQ' => ?_)
            | (with_reducible apply CP.k_reg1; refine cp_region ?_)
            | ((with_reducible apply CP.k_cond); first | refine cp_condT rfl ?_ | refine cp_condF rfl ?_ | refine cp_cond rfl (fun hc => ?_) (fun hc => ?_))
            | refine CP.go ?_
            | (simp only [List.append_eq, List.cons_append, List.nil_append]))
        all_goals first
          | (exfalso; simp at *; done)
          | (exfalso; simp at *; omega)
          | (exact RetQ.A [(0, 0)] (by exact ⟨rfl, rfl⟩))
  · have ht : takeS z32 g n (e, b) = (z32, (e, b)) := by simp [takeS, he]
    have hb : ((e : Int) == 0) = false := by simp [he]
    rw [ht]
    refine AC.N Try.func62 Try.ntmps62 ?_
    intro X
    simp only [nx, Nat.reduceAdd, Nat.reduceSub, BEq.rfl]
    repeat' (first
      | ((first
      | ((with_reducible apply AP.k_any); first
               | refine AP.S ?_
               | (refine AP.Y ?_; dsimp only) | refine AP.G (fun hg => ?_) (fun hg => ?_)
        )
      | ((with_reducible apply AP.k_any); refine AP.CB [(0, 0)] 0 (fine_ac (e, b)) ?_)
      )
        <;> (try simp only [nx, Nat.reduceAdd, Nat.reduceSub, BEq.rfl]))
      | ((with_reducible apply AP.k_nil); first
          | (refine AP.nil (hQ' _ ?_); clear hQ' Q')
          | refine AP.nil ?_)
      | ((with_reducible apply CP.k_reg); refine cp_regG fun Q' hQ' => ?_)
        | (with_reducible apply CP.k_reg1; refine cp_region ?_)
        | ((with_reducible apply CP.k_cond); first | refine cp_condT rfl ?_ | refine cp_condF rfl ?_ | refine cp_cond rfl (fun hc => ?_) (fun hc => ?_))
        | refine CP.go ?_
        | (simp only [List.append_eq, List.cons_append, List.nil_append]))
    all_goals first
      | (exfalso; simp at *; done)
      | (exfalso; simp at *; omega)
      | (exact RetQ.A [(0, 0)] (by exact ⟨rfl, rfl⟩))
theorem rtag_ac (st : Int × List UInt8) (hst : st.2.length ≤ 100000000) : AC Try.prog 31 [.bp 0 0 0] [rB st] (fun v bs' => v = tg (tagR st).1 ∧ bs' = [rB (tagR st).2]) := by
  have h := take6_ac 63 tagG 32 st hst (fun b hb _ => rtag1_ac b hb)
  refine AC.N Try.func31 Try.ntmps31 ?_
  intro X
  simp only [nx, Nat.reduceAdd, Nat.reduceSub, BEq.rfl]
  repeat' (first
    | ((first
    | ((with_reducible apply AP.k_any); first
            | refine AP.S ?_
            | refine AP.A ?_ | refine AP.AB 0 ?_ | refine AP.AB 1 ?_ | refine AP.AL ?_
            )
    ) <;> (try simp only [nx, Nat.reduceAdd, Nat.reduceSub, BEq.rfl]))
    | ((with_reducible apply AP.k_nil); first | (refine AP.nil (hQ' _ ?_); clear hQ' Q') | refine AP.nil ?_)
    | ((with_reducible apply CP.k_reg); refine cp_regG fun Q' hQ' => ?_)
      | (with_reducible apply CP.k_reg1; refine cp_region ?_)
      | ((with_reducible apply CP.k_cond); first | refine cp_condT rfl ?_ | refine cp_condF rfl ?_ | refine cp_cond rfl (fun hc => ?_) (fun hc => ?_))
      | refine CP.go ?_
      | (simp only [List.append_eq, List.cons_append, List.nil_append]))
  (exact RetQ.A [(0, 0)] (by exact ⟨rfl, rfl⟩))
def tagF (s : Rf) : List UInt8 × Rf := (if (someF 32 s).1.2 then (someF 32 s).1.1 else z32, (someF 32 s).2)
theorem sim_tag : Sim tagF tagR := fun s hs => by
  have h := take_some z32 tagG 32 hs (n' := 32) rfl
  refine ⟨?_, ?_, someF_ok hs⟩ <;> (unfold tagF tagR; rw [h]) <;> (cases hb : (someF 32 s).1.2 <;> simp [tagG, hb])
theorem dtag_ac (s : Rf) (hs : s.ok) : AC Try.prog 36 [.bp 0 0 0] [fB s] (fun v bs' => v = tg (tagF s).1 ∧ bs' = [fB (tagF s).2]) := by
  have h := some_ac 32 s hs (by omega)
  have hl := someF_len (n := 32) hs
  unfold tagF
  generalize someF 32 s = r at h hl ⊢
  obtain ⟨⟨l, o⟩, s'⟩ := r
  dsimp only at h hl ⊢
  cases o with
  | false =>
    simp only [Bool.false_eq_true, if_false]
    refine AC.N Try.func36 Try.ntmps36 ?_
    intro X
    simp only [nx, Nat.reduceAdd, Nat.reduceSub, BEq.rfl]
    repeat' (first
      | ((first
      | ((with_reducible apply AP.k_any); first
              | refine AP.S ?_
              | refine AP.E ?_
              | (refine AP.Y ?_; dsimp only) | refine AP.G (fun hg => ?_) (fun hg => ?_)
              | refine AP.T ?_
              | refine AP.A ?_ | refine AP.AB 0 ?_ | refine AP.AB 1 ?_ | refine AP.AL ?_
              )
      ) <;> (try simp only [nx, Nat.reduceAdd, Nat.reduceSub, BEq.rfl]))
      | ((with_reducible apply AP.k_nil); first | (refine AP.nil (hQ' _ ?_); clear hQ' Q') | refine AP.nil ?_)
      | ((with_reducible apply CP.k_reg); refine cp_regG fun Q' hQ' => ?_)
        | (with_reducible apply CP.k_reg1; refine cp_region ?_)
        | ((with_reducible apply CP.k_cond); first | refine cp_condT rfl ?_ | refine cp_condF rfl ?_ | refine cp_cond rfl (fun hc => ?_) (fun hc => ?_))
        | refine CP.go ?_
        | (simp only [List.append_eq, List.cons_append, List.nil_append]))
    refine cp_rounds 1 ?_
    repeat' (first
      | ((first
      | ((with_reducible apply AP.k_any); first
              | refine AP.S ?_
              | refine AP.E ?_
              | (refine AP.Y ?_; dsimp only) | refine AP.G (fun hg => ?_) (fun hg => ?_)
              | refine AP.T ?_
              | refine AP.A ?_ | refine AP.AB 0 ?_ | refine AP.AB 1 ?_ | refine AP.AL ?_
              )
      ) <;> (try simp only [nx, Nat.reduceAdd, Nat.reduceSub, BEq.rfl]))
      | ((with_reducible apply AP.k_nil); first | (refine AP.nil (hQ' _ ?_); clear hQ' Q') | refine AP.nil ?_)
      | ((with_reducible apply CP.k_reg); refine cp_regG fun Q' hQ' => ?_)
        | (with_reducible apply CP.k_reg1; refine cp_region ?_)
        | ((with_reducible apply CP.k_cond); first | refine cp_condT rfl ?_ | refine cp_condF rfl ?_ | refine cp_cond rfl (fun hc => ?_) (fun hc => ?_))
        | refine CP.go ?_
        | (simp only [List.append_eq, List.cons_append, List.nil_append]))
    (exact RetQ.A [(0, 0)] (by exact ⟨rfl, rfl⟩))
  | true =>
    have hx := hl rfl
    simp only [if_true]
    refine AC.N Try.func36 Try.ntmps36 ?_
    intro X
    simp only [nx, Nat.reduceAdd, Nat.reduceSub, BEq.rfl]
    repeat' (first
      | ((first
      | ((with_reducible apply AP.k_any); first
              | refine AP.S ?_
              | refine AP.E ?_
              | (refine AP.Y ?_; dsimp only) | refine AP.G (fun hg => ?_) (fun hg => ?_)
              | refine AP.T ?_
              | refine AP.A ?_ | refine AP.AB 0 ?_ | refine AP.AB 1 ?_ | refine AP.AL ?_
              )
      ) <;> (try simp only [nx, Nat.reduceAdd, Nat.reduceSub, BEq.rfl]))
      | ((with_reducible apply AP.k_nil); first | (refine AP.nil (hQ' _ ?_); clear hQ' Q') | refine AP.nil ?_)
      | ((with_reducible apply CP.k_reg); refine cp_regG fun Q' hQ' => ?_)
        | (with_reducible apply CP.k_reg1; refine cp_region ?_)
        | ((with_reducible apply CP.k_cond); first | refine cp_condT rfl ?_ | refine cp_condF rfl ?_ | refine cp_cond rfl (fun hc => ?_) (fun hc => ?_))
        | refine CP.go ?_
        | (simp only [List.append_eq, List.cons_append, List.nil_append]))
    refine cp_loopS [6, 12, 13, 14, 15, 16, 17, 18, 19, 20, 21, 22, 23, 24] (fun a : Nat => 32 - a) (fun a => a ≤ 32) (fun a => [(6, I a)]) (fun a => [(2, ⟨1, .c 24 (mixT l a)⟩)]) 0 (Nat.zero_le _) (by (rw [mixT_0]; exact Gh.W)) ?_
    intro i hi
    simp only [setT, deT, setB, List.set_cons_succ, List.set_cons_zero]
    by_cases hlt : i < 32
    · have hw : IntKind.i64.wrap ((i : Int) + 1) = ((i + 1 : Nat) : Int) := wrap_i64 (by omega) (by omega)
      have hlen := mixT_len l i
      have hset := mixT_set (l := l) (i := i) (by omega)
      repeat' (first
        | ((first
        | ((with_reducible apply AP.k_any); first
                | refine AP.S ?_
                | refine AP.E ?_
                | (refine AP.Y ?_; dsimp only) | refine AP.G (fun hg => ?_) (fun hg => ?_)
                | refine AP.T ?_
                | refine AP.A ?_ | refine AP.AB 0 ?_ | refine AP.AB 1 ?_ | refine AP.AL ?_
                | refine AP.TB ?_)
        ) <;> (try simp only [nx, Nat.reduceAdd, Nat.reduceSub, BEq.rfl]))
        | ((with_reducible apply AP.k_nil); first | (refine AP.nil (hQ' _ ?_); clear hQ' Q') | refine AP.nil ?_)
        | ((with_reducible apply CP.k_reg); refine cp_regG fun Q' hQ' => ?_)
          | (with_reducible apply CP.k_reg1; refine cp_region ?_)
          | ((with_reducible apply CP.k_cond); first | refine cp_condT rfl ?_ | refine cp_condF rfl ?_ | refine cp_cond rfl (fun hc => ?_) (fun hc => ?_))
          | refine CP.go ?_
          | (simp only [List.append_eq, List.cons_append, List.nil_append]))
      · simp only [hw, Nat.mul_one]
        exact ⟨i + 1, by omega, by omega, by (rw [← hset]; exact Gh.W)⟩
      · exfalso; (repeat (rename AC _ _ _ _ _ => hzz; clear hzz)); simp at *; omega
    · obtain rfl : i = 32 := by omega
      rw [mixT_32]
      repeat' (first
        | ((first
        | ((with_reducible apply AP.k_any); first
                | refine AP.S ?_
                | refine AP.E ?_
                | (refine AP.Y ?_; dsimp only) | refine AP.G (fun hg => ?_) (fun hg => ?_)
                | refine AP.T ?_
                | refine AP.A ?_ | refine AP.AB 0 ?_ | refine AP.AB 1 ?_ | refine AP.AL ?_
                )
        ) <;> (try simp only [nx, Nat.reduceAdd, Nat.reduceSub, BEq.rfl]))
        | ((with_reducible apply AP.k_nil); first | (refine AP.nil (hQ' _ ?_); clear hQ' Q') | refine AP.nil ?_)
        | ((with_reducible apply CP.k_reg); refine cp_regG fun Q' hQ' => ?_)
          | (with_reducible apply CP.k_reg1; refine cp_region ?_)
          | ((with_reducible apply CP.k_cond); first | refine cp_condT rfl ?_ | refine cp_condF rfl ?_ | refine cp_cond rfl (fun hc => ?_) (fun hc => ?_))
          | refine CP.go ?_
          | (simp only [List.append_eq, List.cons_append, List.nil_append]))
      all_goals first
        | (exfalso; (repeat (rename AC _ _ _ _ _ => hzz; clear hzz)); simp at *; done)
        | (exact RetQ.A [(0, 0)] (by exact ⟨rfl, rfl⟩))
end Go.Proofs.Ytnjfchigdpifmaa

namespace Go.Proofs.Ytnjfchigdpifmaa
set_option linter.unusedVariables false
set_option linter.unusedSimpArgs false
set_option maxHeartbeats 8000000
open Go.RowKit
set_option maxRecDepth 100000
def pk0 : Pkt := ⟨0, 0, 0, 0, 0, [], z32⟩
abbrev Rw := Int × List UInt8
def r1 (st : Rw) : Rw := (intR st).2
def r2 (st : Rw) : Rw := (intR (r1 st)).2
def r3 (st : Rw) : Rw := (intR (r2 st)).2
def r4 (st : Rw) : Rw := (intR (r3 st)).2
def r5 (st : Rw) : Rw := (intR (r4 st)).2
def r6 (st : Rw) : Rw := (bytesR (r5 st)).2
def r7 (st : Rw) : Rw := (tagR (r6 st)).2
def packR (st : Rw) : Pkt := ⟨(intR st).1, (intR (r1 st)).1, (intR (r2 st)).1, (intR (r3 st)).1, (intR (r4 st)).1, (bytesR (r5 st)).1, (tagR (r6 st)).1⟩
def parseP (b : List UInt8) : Pkt × Int := if endR (r7 (newR b)) = 0 ∧ mayP (packR (newR b)) = true then (packR (newR b), 0) else (pk0, 190)
theorem newR_le' {b : List UInt8} {k : Nat} (h : b.length ≤ k) : (newR b).2.length ≤ k := by
  unfold newR
  split
  · simp
  · exact h
theorem int_le {st : Rw} {k : Nat} (h : st.2.length ≤ k) : (intR st).2.2.length ≤ k := takeS_len h
theorem bytes_le {st : Rw} {k : Nat} (h : st.2.length ≤ k) : (bytesR st).2.2.length ≤ k := takeS_len (takeS_len h)
theorem tag_le {st : Rw} {k : Nat} (h : st.2.length ≤ k) : (tagR st).2.2.length ≤ k := takeS_len h
theorem parseQ_ac (b : List UInt8) (s0 s1 s2 s3 s4 s5 s6 s7 : Rw) (a1 a2 a3 a4 a5 : Int) (a6 a7 : List UInt8) (ee : Int) (mm : Bool) (R : Pkt × Int)
    (h0 : AC Try.prog 28 [bs none b] [] (fun v bs' => v = .bp 0 0 0 ∧ bs' = [rB s0]))
    (i1 : AC Try.prog 29 [.bp 0 0 0] [rB s0] (fun v bs' => v = I a1 ∧ bs' = [rB s1]))
    (i2 : AC Try.prog 29 [.bp 0 0 0] [rB s1] (fun v bs' => v = I a2 ∧ bs' = [rB s2]))
    (i3 : AC Try.prog 29 [.bp 0 0 0] [rB s2] (fun v bs' => v = I a3 ∧ bs' = [rB s3]))
    (i4 : AC Try.prog 29 [.bp 0 0 0] [rB s3] (fun v bs' => v = I a4 ∧ bs' = [rB s4]))
    (i5 : AC Try.prog 29 [.bp 0 0 0] [rB s4] (fun v bs' => v = I a5 ∧ bs' = [rB s5]))
    (i6 : AC Try.prog 30 [.bp 0 0 0] [rB s5] (fun v bs' => v = bs none a6 ∧ bs' = [rB s6]))
    (i7 : AC Try.prog 31 [.bp 0 0 0] [rB s6] (fun v bs' => v = tg a7 ∧ bs' = [rB s7]))
    (i8 : AC Try.prog 32 [.bp 0 0 0] [rB s7] (fun v bs' => v = I ee ∧ bs' = [rB s7]))
    (i9 : AC Try.prog 16 [.ag (eP ⟨a1, a2, a3, a4, a5, a6, a7⟩)] [] (fun v bs' => v = B mm ∧ bs' = []))
    (hR : R = if ee = 0 ∧ mm = true then (⟨a1, a2, a3, a4, a5, a6, a7⟩, 0) else (pk0, 190)) :
    AC Try.prog 9 [bs none b] [] (fun v bs' => v = .tu [.ag (eP R.1), I R.2] ∧ bs' = []) := by
  by_cases hg : ee = 0 ∧ mm = true
  · rw [if_pos hg] at hR
    subst hR
    obtain ⟨rfl, rfl⟩ := hg
    refine AC.N Try.func9 Try.ntmps9 ?_
    intro X
    simp only [nx, Nat.reduceAdd, Nat.reduceSub, BEq.rfl]
    refine CP.gh gh_slot ?_; simp only [nx, Nat.reduceAdd, Nat.reduceSub, BEq.rfl]
    refine CP.gh gh_slot ?_; simp only [nx, Nat.reduceAdd, Nat.reduceSub, BEq.rfl]
    refine CP.gh gh_slot ?_; simp only [nx, Nat.reduceAdd, Nat.reduceSub, BEq.rfl]
    refine CP.gh gh_slot ?_; simp only [nx, Nat.reduceAdd, Nat.reduceSub, BEq.rfl]
    repeat' (first
      | ((first
      | ((with_reducible apply AP.k_any); first
              | refine AP.S ?_
              | (refine AP.Y ?_; dsimp only) | refine AP.G (fun hg => ?_) (fun hg => ?_)
              | refine AP.A ?_ | refine AP.AB 0 ?_ | refine AP.AB 1 ?_ | refine AP.AL ?_
              | ((with_reducible apply AP.k_any); refine AP.B 0 (i1) ?_)
                | ((with_reducible apply AP.k_any); refine AP.B 0 (i2) ?_)
                | ((with_reducible apply AP.k_any); refine AP.B 0 (i3) ?_)
                | ((with_reducible apply AP.k_any); refine AP.B 0 (i4) ?_))
      ) <;> (try simp only [nx, Nat.reduceAdd, Nat.reduceSub, BEq.rfl]))
      | ((with_reducible apply AP.k_nil); first | (refine AP.nil (hQ' _ ?_); clear hQ' Q') | refine AP.nil ?_)
      | ((with_reducible apply CP.k_reg); refine cp_regG fun Q' hQ' => ?_)
        | (with_reducible apply CP.k_reg1; refine cp_region ?_)
        | ((with_reducible apply CP.k_cond); first | refine cp_condT rfl ?_ | refine cp_condF rfl ?_ | refine cp_cond rfl (fun hc => ?_) (fun hc => ?_))
        | refine CP.go ?_
        | (simp only [List.append_eq, List.cons_append, List.nil_append]))
    all_goals first
      | (exact RetQ.A [] (by exact ⟨rfl, rfl⟩))
      | (exfalso; (repeat (rename AC _ _ _ _ _ => hzz; clear hzz)); simp at *; done)
  · rw [if_neg hg] at hR
    subst hR
    refine AC.N Try.func9 Try.ntmps9 ?_
    intro X
    simp only [nx, Nat.reduceAdd, Nat.reduceSub, BEq.rfl]
    refine CP.gh gh_slot ?_; simp only [nx, Nat.reduceAdd, Nat.reduceSub, BEq.rfl]
    refine CP.gh gh_slot ?_; simp only [nx, Nat.reduceAdd, Nat.reduceSub, BEq.rfl]
    refine CP.gh gh_slot ?_; simp only [nx, Nat.reduceAdd, Nat.reduceSub, BEq.rfl]
    refine CP.gh gh_slot ?_; simp only [nx, Nat.reduceAdd, Nat.reduceSub, BEq.rfl]
    repeat' (first
      | ((first
      | ((with_reducible apply AP.k_any); first
              | refine AP.S ?_
              | (refine AP.Y ?_; dsimp only) | refine AP.G (fun hg => ?_) (fun hg => ?_)
              | refine AP.A ?_ | refine AP.AB 0 ?_ | refine AP.AB 1 ?_ | refine AP.AL ?_
              | ((with_reducible apply AP.k_any); refine AP.B 0 (i1) ?_)
                | ((with_reducible apply AP.k_any); refine AP.B 0 (i2) ?_)
                | ((with_reducible apply AP.k_any); refine AP.B 0 (i3) ?_)
                | ((with_reducible apply AP.k_any); refine AP.B 0 (i4) ?_))
      ) <;> (try simp only [nx, Nat.reduceAdd, Nat.reduceSub, BEq.rfl]))
      | ((with_reducible apply AP.k_nil); first | (refine AP.nil (hQ' _ ?_); clear hQ' Q') | refine AP.nil ?_)
      | ((with_reducible apply CP.k_reg); refine cp_regG fun Q' hQ' => ?_)
        | (with_reducible apply CP.k_reg1; refine cp_region ?_)
        | ((with_reducible apply CP.k_cond); first | refine cp_condT rfl ?_ | refine cp_condF rfl ?_ | refine cp_cond rfl (fun hc => ?_) (fun hc => ?_))
        | refine CP.go ?_
        | (simp only [List.append_eq, List.cons_append, List.nil_append]))
    all_goals first
      | (exact RetQ.A [] (by exact ⟨rfl, rfl⟩))
      | (exfalso; (repeat (rename AC _ _ _ _ _ => hzz; clear hzz)); simp at *; simp_all; done)
theorem parseP_ac (b : List UInt8) (hb : b.length ≤ 100000000) : AC Try.prog 9 [bs none b] [] (fun v bs' => v = .tu [.ag (eP (parseP b).1), I (parseP b).2] ∧ bs' = []) := by
  have l0 := newR_le' hb
  have l1 : (r1 (newR b)).2.length ≤ 100000000 := int_le l0
  have l2 : (r2 (newR b)).2.length ≤ 100000000 := int_le l1
  have l3 : (r3 (newR b)).2.length ≤ 100000000 := int_le l2
  have l4 : (r4 (newR b)).2.length ≤ 100000000 := int_le l3
  have l5 : (r5 (newR b)).2.length ≤ 100000000 := int_le l4
  have l6 : (r6 (newR b)).2.length ≤ 100000000 := bytes_le l5
  exact parseQ_ac b _ _ _ _ _ _ _ _ _ _ _ _ _ _ _ _ _ _ (rnew_ac b hb) (rint_ac _ l0) (rint_ac _ l1) (rint_ac _ l2) (rint_ac _ l3) (rint_ac _ l4) (rbytes_ac _ l5) (rtag_ac _ l6) (rend_ac _) (mayP_ac _) rfl
/-! the document's -/
def packRF (s : Rf) : Pkt × Rf :=
  let a := intF s
  let b := intF a.2
  let c := intF b.2
  let d := intF c.2
  let e := intF d.2
  let f := bytesF e.2
  let g := tagF f.2
  (⟨a.1, b.1, c.1, d.1, e.1, f.1, g.1⟩, g.2)
theorem parseP_F (b : List UInt8) (hb : b.length ≤ 100000000) : parseP b = if endF (packRF (newF b)).2 = 0 ∧ mayP (packRF (newF b)).1 = true then ((packRF (newF b)).1, 0) else (pk0, 190) := by
  obtain ⟨h1, h2⟩ := sim_new b hb
  obtain ⟨a1, a2, a3⟩ := sim_int _ h2
  obtain ⟨b1, b2, b3⟩ := sim_int _ a3
  obtain ⟨c1, c2, c3⟩ := sim_int _ b3
  obtain ⟨d1, d2, d3⟩ := sim_int _ c3
  obtain ⟨e1, e2, e3⟩ := sim_int _ d3
  obtain ⟨f1, f2, f3⟩ := sim_bytes _ e3
  obtain ⟨g1, g2, g3⟩ := sim_tag _ f3
  have k : (packRF (newF b)).1 = packR (newR b) := by
    unfold packRF packR r6 r5 r4 r3 r2 r1
    dsimp only
    rw [g1, f2, e2, d2, c2, b2, a2, h1, f1, e2, d2, c2, b2, a2, h1, e1, d2, c2, b2, a2, h1, d1, c2, b2, a2, h1, c1, b2, a2, h1, b1, a2, h1, a1, h1]
  have k2 : endF (packRF (newF b)).2 = endR (r7 (newR b)) := by
    have e : (packRF (newF b)).2 = (tagF (bytesF (intF (intF (intF (intF (intF (newF b)).2).2).2).2).2).2).2 := rfl
    rw [e, sim_end _ g3]
    unfold r7 r6 r5 r4 r3 r2 r1
    rw [g2, f2, e2, d2, c2, b2, a2, h1]
  unfold parseP
  rw [k, k2]
theorem dparseQ_ac (b : List UInt8) (s0 s1 s2 s3 s4 s5 s6 s7 : Rf) (a1 a2 a3 a4 a5 : Int) (a6 a7 : List UInt8) (ee : Int) (mm : Bool) (R : Pkt × Int)
    (h0 : AC Try.prog 33 [bs none b] [] (fun v bs' => v = .bp 0 0 0 ∧ bs' = [fB s0]))
    (i1 : AC Try.prog 34 [.bp 0 0 0] [fB s0] (fun v bs' => v = I a1 ∧ bs' = [fB s1]))
    (i2 : AC Try.prog 34 [.bp 0 0 0] [fB s1] (fun v bs' => v = I a2 ∧ bs' = [fB s2]))
    (i3 : AC Try.prog 34 [.bp 0 0 0] [fB s2] (fun v bs' => v = I a3 ∧ bs' = [fB s3]))
    (i4 : AC Try.prog 34 [.bp 0 0 0] [fB s3] (fun v bs' => v = I a4 ∧ bs' = [fB s4]))
    (i5 : AC Try.prog 34 [.bp 0 0 0] [fB s4] (fun v bs' => v = I a5 ∧ bs' = [fB s5]))
    (i6 : AC Try.prog 35 [.bp 0 0 0] [fB s5] (fun v bs' => v = bs none a6 ∧ bs' = [fB s6]))
    (i7 : AC Try.prog 36 [.bp 0 0 0] [fB s6] (fun v bs' => v = tg a7 ∧ bs' = [fB s7]))
    (i8 : AC Try.prog 37 [.bp 0 0 0] [fB s7] (fun v bs' => v = I ee ∧ bs' = [fB s7]))
    (i9 : AC Try.prog 17 [.ag (eP ⟨a1, a2, a3, a4, a5, a6, a7⟩)] [] (fun v bs' => v = B mm ∧ bs' = []))
    (hR : R = if ee = 0 ∧ mm = true then (⟨a1, a2, a3, a4, a5, a6, a7⟩, 0) else (pk0, 190)) :
    AC Try.prog 10 [bs none b] [] (fun v bs' => v = .tu [.ag (eP R.1), I R.2] ∧ bs' = []) := by
  by_cases hg : ee = 0 ∧ mm = true
  · rw [if_pos hg] at hR
    subst hR
    obtain ⟨rfl, rfl⟩ := hg
    refine AC.N Try.func10 Try.ntmps10 ?_
    intro X
    simp only [nx, Nat.reduceAdd, Nat.reduceSub, BEq.rfl]
    refine CP.gh gh_slot ?_; simp only [nx, Nat.reduceAdd, Nat.reduceSub, BEq.rfl]
    refine CP.gh gh_slot ?_; simp only [nx, Nat.reduceAdd, Nat.reduceSub, BEq.rfl]
    refine CP.gh gh_slot ?_; simp only [nx, Nat.reduceAdd, Nat.reduceSub, BEq.rfl]
    repeat' (first
      | ((first
      | ((with_reducible apply AP.k_any); first
              | refine AP.S ?_
              | (refine AP.Y ?_; dsimp only) | refine AP.G (fun hg => ?_) (fun hg => ?_)
              | refine AP.A ?_ | refine AP.AB 0 ?_ | refine AP.AB 1 ?_ | refine AP.AL ?_
              | ((with_reducible apply AP.k_any); refine AP.B 0 (i1) ?_)
                | ((with_reducible apply AP.k_any); refine AP.B 0 (i2) ?_)
                | ((with_reducible apply AP.k_any); refine AP.B 0 (i3) ?_)
                | ((with_reducible apply AP.k_any); refine AP.B 0 (i4) ?_))
      ) <;> (try simp only [nx, Nat.reduceAdd, Nat.reduceSub, BEq.rfl]))
      | ((with_reducible apply AP.k_nil); first | (refine AP.nil (hQ' _ ?_); clear hQ' Q') | refine AP.nil ?_)
      | ((with_reducible apply CP.k_reg); refine cp_regG fun Q' hQ' => ?_)
        | (with_reducible apply CP.k_reg1; refine cp_region ?_)
        | ((with_reducible apply CP.k_cond); first | refine cp_condT rfl ?_ | refine cp_condF rfl ?_ | refine cp_cond rfl (fun hc => ?_) (fun hc => ?_))
        | refine CP.go ?_
        | (simp only [List.append_eq, List.cons_append, List.nil_append]))
    all_goals first
      | (exact RetQ.A [] (by exact ⟨rfl, rfl⟩))
      | (exfalso; (repeat (rename AC _ _ _ _ _ => hzz; clear hzz)); simp at *; done)
  · rw [if_neg hg] at hR
    subst hR
    refine AC.N Try.func10 Try.ntmps10 ?_
    intro X
    simp only [nx, Nat.reduceAdd, Nat.reduceSub, BEq.rfl]
    refine CP.gh gh_slot ?_; simp only [nx, Nat.reduceAdd, Nat.reduceSub, BEq.rfl]
    refine CP.gh gh_slot ?_; simp only [nx, Nat.reduceAdd, Nat.reduceSub, BEq.rfl]
    refine CP.gh gh_slot ?_; simp only [nx, Nat.reduceAdd, Nat.reduceSub, BEq.rfl]
    repeat' (first
      | ((first
      | ((with_reducible apply AP.k_any); first
              | refine AP.S ?_
              | (refine AP.Y ?_; dsimp only) | refine AP.G (fun hg => ?_) (fun hg => ?_)
              | refine AP.A ?_ | refine AP.AB 0 ?_ | refine AP.AB 1 ?_ | refine AP.AL ?_
              | ((with_reducible apply AP.k_any); refine AP.B 0 (i1) ?_)
                | ((with_reducible apply AP.k_any); refine AP.B 0 (i2) ?_)
                | ((with_reducible apply AP.k_any); refine AP.B 0 (i3) ?_)
                | ((with_reducible apply AP.k_any); refine AP.B 0 (i4) ?_))
      ) <;> (try simp only [nx, Nat.reduceAdd, Nat.reduceSub, BEq.rfl]))
      | ((with_reducible apply AP.k_nil); first | (refine AP.nil (hQ' _ ?_); clear hQ' Q') | refine AP.nil ?_)
      | ((with_reducible apply CP.k_reg); refine cp_regG fun Q' hQ' => ?_)
        | (with_reducible apply CP.k_reg1; refine cp_region ?_)
        | ((with_reducible apply CP.k_cond); first | refine cp_condT rfl ?_ | refine cp_condF rfl ?_ | refine cp_cond rfl (fun hc => ?_) (fun hc => ?_))
        | refine CP.go ?_
        | (simp only [List.append_eq, List.cons_append, List.nil_append]))
    all_goals first
      | (exact RetQ.A [] (by exact ⟨rfl, rfl⟩))
      | (exfalso; (repeat (rename AC _ _ _ _ _ => hzz; clear hzz)); simp at *; simp_all; done)
theorem dparseP_ac (b : List UInt8) (hb : b.length ≤ 10000000) : AC Try.prog 10 [bs none b] [] (fun v bs' => v = .tu [.ag (eP (parseP b).1), I (parseP b).2] ∧ bs' = []) := by
  obtain ⟨_, k0⟩ := sim_new b (by omega)
  have k1 : (intF (newF b)).2.ok := someF_ok k0
  have k2 : (intF (intF (newF b)).2).2.ok := someF_ok k1
  have k3 : (intF (intF (intF (newF b)).2).2).2.ok := someF_ok k2
  have k4 : (intF (intF (intF (intF (newF b)).2).2).2).2.ok := someF_ok k3
  have k5 : (intF (intF (intF (intF (intF (newF b)).2).2).2).2).2.ok := someF_ok k4
  obtain ⟨_, _, k6⟩ := sim_bytes _ k5
  exact dparseQ_ac b _ _ _ _ _ _ _ _ _ _ _ _ _ _ _ _ _ _ (dnew_ac b (by omega)) (dintR_ac _ k0) (dintR_ac _ k1) (dintR_ac _ k2) (dintR_ac _ k3) (dintR_ac _ k4) (dbytesR_ac _ k5) (dtag_ac _ k6) (dend_ac _) (dmayP_ac _) (parseP_F b (by omega))
end Go.Proofs.Ytnjfchigdpifmaa

namespace Go.Proofs.Ytnjfchigdpifmaa
set_option linter.unusedVariables false
set_option linter.unusedSimpArgs false
open Go.RowKit Go.ChangeShapes Go.WideShapes Go.ChangeAt Go.Deep
set_option maxRecDepth 100000

/-! bulk -/
theorem bulk_one {H : Type} (d : DataW H) : 1 ≤ Rows.uptoBulk d := by
  cases d with
  | lit l => cases l <;> simp [Rows.uptoBulk]
  | _ => simp [Rows.uptoBulk]
theorem bulk_part {H : Type} {d : DataW H} {l : List (DataW H)} (h : d ∈ l) : Rows.uptoBulk d ≤ Rows.uptoBulkAll l := by
  induction l with
  | nil => cases h
  | cons x r ih =>
    simp only [Rows.uptoBulkAll]
    cases List.mem_cons.1 h with
    | inl e => subst e; omega
    | inr e => have := ih e; omega
theorem bulk_length {H : Type} (l : List (DataW H)) : l.length ≤ Rows.uptoBulkAll l := by
  induction l with
  | nil => simp [Rows.uptoBulkAll]
  | cons x r ih => have := bulk_one x; simp only [Rows.uptoBulkAll, List.length_cons]; omega

/-- what reads as data of a type is k cells of my data; N: its bulk -/
def OA (P : Program) (t : TypeId) (k : Nat) {α : Type} (ok : Nat → α → Prop) (e : α → List AV) : Prop :=
  P.cellsOf t = k ∧ (∀ m n d, m ≤ n → ok m d → ok n d) ∧ ∀ {H : Type} {enc : TypeId × Value → H} {w : World} {base : Nat} {fuel : Nat} {cs : List Value} {x : DataW H × List MemPlace},
    DataW.trod enc P w base (fun _ => true) true fuel t cs = some x → ∃ d : α, ok (Rows.uptoBulk x.1) d ∧ (∀ φ κ, RC w φ κ (fun b => b < w.heap.size) (e d) cs Ct.z) ∧ (∀ u ∈ cs, u.oneCell' = true) ∧ (∀ a ∈ e d, a.leaf = true) ∧ cs.length = k
section
variable {P : Program} {t e : TypeId} {α β : Type} {ok : Nat → α → Prop} {k : Nat} {en : α → List AV}
theorem OA.map (h : OA P t k ok en) (f : α → β) {ok' : Nat → β → Prop} {en' : β → List AV} (hm : ∀ m n d, m ≤ n → ok' m d → ok' n d) (h1 : ∀ n a, ok n a → ok' n (f a)) (h2 : ∀ a, en' (f a) = en a) : OA P t k ok' en' :=
  ⟨h.1, hm, fun hx => by
    obtain ⟨d, a, b, c⟩ := h.2.2 hx
    exact ⟨f d, h1 _ _ a, by rw [h2]; exact b, by rw [h2]; exact c⟩⟩
theorem OA.wmap (h : OA P t k ok en) (f : α → β) {ok' : Nat → β → Prop} {en' : β → List AV} (hm : ∀ m n d, m ≤ n → ok' m d → ok' n d) (h1 : ∀ n a, ok n a → ok' n (f a)) (h2 : ∀ n a, ok n a → en' (f a) = en a) : OA P t k ok' en' :=
  ⟨h.1, hm, fun hx => by
    obtain ⟨d, a, b, c⟩ := h.2.2 hx
    exact ⟨f d, h1 _ _ a, by rw [h2 _ _ a]; exact b, by rw [h2 _ _ a]; exact c⟩⟩
theorem RC.one_ {w : World} {φ : Fi} {κ : Ka} {R : Nat → Prop} {a : AV} {v : Value} (h : RV w φ κ R a v Ct.z) : RC w φ κ R [a] [v] Ct.z := .cons (S := Ct.z) (T := Ct.z) h .nil fun _ => rfl
theorem oa_int {κ : IntKind} (ht : P.underlying t = some (.int κ)) (hc : P.cellsOf t = 1) : OA P t 1 (fun _ (n : Int) => (Lit.int κ n).wf = true) (fun n => [.sc (.int κ n)]) :=
  ⟨hc, fun _ _ _ _ h => h, fun h => by
    obtain ⟨n, rfl, _, hw⟩ := DataW.trod_int ht h
    exact ⟨n, hw, fun _ _ => RC.one_ (.sc rfl), fun u hu => by simp at hu; subst hu; rfl, fun a ha => by simp at ha; subst ha; rfl, rfl⟩⟩
theorem oa_bool (ht : P.underlying t = some .bool) (hc : P.cellsOf t = 1) : OA P t 1 (fun _ (_ : Bool) => True) (fun n => [.sc (.bool n)]) :=
  ⟨hc, fun _ _ _ _ h => h, fun h => by
    obtain ⟨n, rfl, _⟩ := DataW.trod_bool ht h
    exact ⟨n, trivial, fun _ _ => RC.one_ (.sc rfl), fun u hu => by simp at hu; subst hu; rfl, fun a ha => by simp at ha; subst ha; rfl, rfl⟩⟩
theorem oa_string (ht : P.underlying t = some .string) (hc : P.cellsOf t = 1) : OA P t 1 (fun m (n : ByteArray) => n.size < m) (fun n => [.sc (.string n)]) :=
  ⟨hc, fun _ _ _ h k => Nat.lt_of_lt_of_le k h, fun h => by
    obtain ⟨n, rfl, rfl, hw⟩ := DataW.trod_string ht h
    exact ⟨n, by (simp [Rows.uptoBulk]), fun _ _ => RC.one_ (.sc rfl), fun u hu => by simp at hu; subst hu; rfl, fun a ha => by simp at ha; subst ha; rfl, rfl⟩⟩
theorem RE.of_rows {w : World} {φ : Fi} {κ : Ka} {R : Nat → Prop} {k : Nat} {en : α → List AV} {l : List α} (css : Nat → List Value) (h : ∀ i x, l[i]? = some x → RC w φ κ R (en x) (css i) Ct.z ∧ (∀ u ∈ css i, u.oneCell' = true) ∧ (∀ a ∈ en x, a.leaf = true) ∧ (css i).length = k) :
    RE w φ κ R k (l.map en) ((List.range l.length).flatMap css) Ct.z := by
  induction l generalizing css with
  | nil => exact .nil
  | cons x l ih =>
    have h0 := h 0 x rfl
    have h1 := ih (fun i => css (i + 1)) fun i y hy => h (i + 1) y (by simpa using hy)
    rw [List.length_cons, List.range_succ_eq_map, List.flatMap_cons, List.flatMap_map]
    exact .cons (S := Ct.z) (T := Ct.z) h0.1 h0.2.2.2 ⟨h0.2.1, h0.2.2.1⟩ h1 fun _ => rfl
theorem flat_at {css : Nat → List Value} {k n : Nat} (h : ∀ i, i < n → (css i).length = k) : ∀ {j : Nat} {u : Value}, ((List.range n).flatMap css)[j]? = some u → ∃ i r, i < n ∧ j = i * k + r ∧ (css i)[r]? = some u := by
  induction n generalizing css with
  | zero => intro j u hj; simp at hj
  | succ n ih =>
    intro j u hj
    rw [List.range_succ_eq_map, List.flatMap_cons, List.flatMap_map] at hj
    have h0 := h 0 (by omega)
    by_cases hjk : j < k
    · rw [List.getElem?_append_left (by omega)] at hj
      exact ⟨0, j, by omega, by omega, hj⟩
    · rw [List.getElem?_append_right (by omega)] at hj
      obtain ⟨i, r, hi, hr, hu⟩ := ih (css := fun i => css (i + 1)) (fun i hi => h (i + 1) (by omega)) hj
      refine ⟨i + 1, r, by omega, ?_, hu⟩
      rw [Nat.add_mul]; omega
theorem spot_none {w : World} {a : Addr} {u : Value} (h : w.cell? (a.add 0) = some u) : a.spot = none := by
  obtain ⟨ab, ao, asp⟩ := a
  cases hsp : asp with
  | none => rfl
  | some s =>
    rw [hsp] at h
    simp [Addr.add, World.cell?] at h
    split at h <;> simp at h
theorem oa_slice (hk : 0 < k) (ht : P.underlying t = some (.slice e)) (hc : P.cellsOf t = 1) (hE : OA P e k ok en) : OA P t 1 (fun N (l : List α) => (∀ x ∈ l, ok N x) ∧ l.length < N) (fun l => [.sl none k (l.map en)]) := by
  refine ⟨hc, fun m n d h k => ⟨fun x hx => hE.2.1 _ _ _ h (k.1 x hx), Nat.lt_of_lt_of_le k.2 h⟩, ?_⟩
  intro H enc w base fuel cs x h
  rcases open_slice ht h with ⟨rfl, rfl⟩ | ⟨a, len, cap, m, n, D, Pl, rfl, hb, hl, hm, hmm, hx, hi⟩
  · exact ⟨[], ⟨fun x hx => by simp at hx, by simp [Rows.uptoBulk]⟩, fun _ _ => RC.one_ .ni, fun u hu => by simp at hu; subst hu; rfl, fun a ha => by simp at ha; subst ha; rfl, rfl⟩
  · obtain rfl : m = cap := by simpa using hmm
    clear hmm
    have hbulk : ∀ i, i < len → Rows.uptoBulk (D i) ≤ Rows.uptoBulk x.1 := by
      intro i hi
      rw [hx]
      have := bulk_part (d := D i) (l := (List.range len).map D) (List.mem_map.2 ⟨i, List.mem_range.2 hi, rfl⟩)
      simp only [Rows.uptoBulk]
      omega
    have hlenb : len < Rows.uptoBulk x.1 := by
      rw [hx]
      have := bulk_length ((List.range len).map D)
      simp only [Rows.uptoBulk]
      simp only [List.length_map, List.length_range] at this
      omega
    have hall : ∀ i, i < len → ∃ (d : α) (cs' : List Value), (ok (Rows.uptoBulk x.1) d ∧ (∀ φ κ, RC w φ κ (fun b => b < w.heap.size) (en d) cs' Ct.z) ∧ (∀ u ∈ cs', u.oneCell' = true) ∧ (∀ a ∈ en d, a.leaf = true) ∧ cs'.length = k) ∧ ∀ j u, cs'[j]? = some u → w.cell? ((a.add (i * k)).add j) = some u := by
      intro i hil
      obtain ⟨cs', hcs, htr⟩ := hi i (by omega)
      obtain ⟨d, hd0, hd⟩ := hE.2.2 htr
      rw [hE.1] at hcs
      obtain ⟨_, hlen, hat⟩ := World.cells?_some hcs
      exact ⟨d, cs', ⟨hE.2.1 _ _ _ (hbulk i hil) hd0, hd⟩, fun j u hu => (hat j (by have := (List.getElem?_eq_some_iff.1 hu).1; omega)).trans hu⟩
    have hsp0 : 0 < m → a.spot = none := by
      intro h0
      obtain ⟨cs', hcs, _⟩ := hi 0 h0
      rw [hE.1] at hcs
      obtain ⟨_, hlen, hat⟩ := World.cells?_some hcs
      have hz := hat 0 (by omega)
      rw [List.getElem?_eq_getElem (by omega)] at hz
      have e0 : a.add (0 * k) = a := by simp [Addr.add]
      rw [e0] at hz
      exact spot_none hz
    have hex : ∃ (l : List α) (css : Nat → List Value), l.length = len ∧ ∀ i y, l[i]? = some y → (ok (Rows.uptoBulk x.1) y ∧ (∀ φ κ, RC w φ κ (fun b => b < w.heap.size) (en y) (css i) Ct.z) ∧ (∀ u ∈ css i, u.oneCell' = true) ∧ (∀ a ∈ en y, a.leaf = true) ∧ (css i).length = k) ∧ ∀ j u, (css i)[j]? = some u → w.cell? ((a.add (i * k)).add j) = some u := by
      clear hi hbulk hlenb h hx
      revert hall
      clear hl
      induction len with
      | zero => exact fun _ => ⟨[], fun _ => [], rfl, fun i x h => by simp at h⟩
      | succ q ih =>
        intro hall
        obtain ⟨l, css, hl, hq⟩ := ih (fun i hi => hall i (by omega))
        obtain ⟨d, cs', hd, hcs⟩ := hall q (by omega)
        refine ⟨l ++ [d], fun i => if i = q then cs' else css i, by simp [hl], fun i x hx => ?_⟩
        by_cases hik : i < q
        · rw [List.getElem?_append_left (by omega)] at hx
          simp only [show i ≠ q by omega, if_false]
          exact hq i x hx
        · have hik' : i = q := by have := (List.getElem?_eq_some_iff.1 hx).1; simp at this; omega
          subst hik'
          rw [List.getElem?_append_right (by omega), hl] at hx
          simp at hx
          subst hx
          simp only [if_true]
          exact ⟨hd, hcs⟩
    obtain ⟨l, css, hll, hq⟩ := hex
    refine ⟨l, ⟨fun y hy => ?_, by omega⟩, fun φ κ => ?_, fun u hu => by simp at hu; subst hu; rfl, fun a ha => by simp at ha; subst ha; rfl, rfl⟩
    · obtain ⟨i, hi, rfl⟩ := List.mem_iff_getElem.1 hy
      exact (hq i _ (List.getElem?_eq_getElem hi)).1.1
    · refine RC.one_ ?_
      subst hll
      by_cases h0 : m = 0
      · subst h0
        obtain rfl : l = [] := List.eq_nil_of_length_eq_zero (by omega)
        exact .ne
      · obtain ⟨ab, ao, asp⟩ := a
        have hspn := hsp0 (by omega)
        simp only at hspn
        subst hspn
        have hflat : ∀ j u, ((List.range l.length).flatMap css)[j]? = some u → w.cell? ⟨ab, ao + j, none⟩ = some u := by
          intro j u hj
          obtain ⟨i, r, hi, rfl, hu⟩ := flat_at (k := k) (fun i hi => (hq i _ (List.getElem?_eq_getElem hi)).1.2.2.2.2) hj
          have := (hq i _ (List.getElem?_eq_getElem hi)).2 r u hu
          have e1 : (Addr.add (Addr.add ⟨ab, ao, none⟩ (i * k)) r) = ⟨ab, ao + (i * k + r), none⟩ := by
            unfold Addr.add
            split <;> split <;> simp_all [Nat.add_assoc]
          rw [e1] at this
          exact this
        have hE' : RE w φ κ (fun b => b < w.heap.size) k (l.map en) ((List.range l.length).flatMap css) Ct.z := RE.of_rows css fun i x hx => ⟨(hq i x hx).1.2.1 φ κ, (hq i x hx).1.2.2⟩
        have := RV.ro (c := m) (b := ab) (o := ao) hE' (by simp; omega) hm (fun hne => by
          have hl0 : 0 < l.length := by cases l with
            | nil => exact absurd rfl hne
            | cons _ _ => simp
          have hc0 := (hq 0 _ (List.getElem?_eq_getElem hl0)).1.2.2.2.2
          have hz := (hq 0 _ (List.getElem?_eq_getElem hl0)).2 0 _ (List.getElem?_eq_getElem (by omega))
          simp only [Addr.add, Nat.zero_mul, if_true, World.cell?] at hz
          cases hh : w.heap[ab]? with
          | none => simp [hh] at hz
          | some o => exact (Array.getElem?_eq_some_iff.1 hh).1) hflat
        simpa using this
/-- fields from an offset on -/
def OFs (P : Program) (fs : List Field) (off k : Nat) {α : Type} (ok : Nat → α → Prop) (e : α → List AV) : Prop :=
  (∀ m n d, m ≤ n → ok m d → ok n d) ∧ ∀ {H : Type} {enc : TypeId × Value → H} {w : World} {base : Nat} {cs : List Value} {N : Nat},
    (∀ f ∈ fs, ∃ n y, DataW.trod enc P w base (fun _ => true) true n f.type ((cs.drop f.offset).take (P.cellsOf f.type)) = some y ∧ Rows.uptoBulk y.1 ≤ N) → off + k ≤ cs.length →
    ∃ d : α, ok N d ∧ (∀ φ κ, RC w φ κ (fun b => b < w.heap.size) (e d) ((cs.drop off).take k) Ct.z) ∧ (∀ u ∈ (cs.drop off).take k, u.oneCell' = true) ∧ (∀ a ∈ e d, a.leaf = true)
theorem of_nil {off : Nat} : OFs P [] off 0 (fun _ (_ : Unit) => True) (fun _ => []) :=
  ⟨fun _ _ _ _ _ => trivial, fun {H enc w base cs N} _ _ => ⟨(), trivial, fun φ κ => by simp; exact .nil, fun u hu => by simp at hu, fun a ha => by cases ha⟩⟩
theorem of_cons {f : Field} {fs : List Field} {off k2 : Nat} {ok2 : Nat → β → Prop} {en2 : β → List AV} (hoff : f.offset = off) (h1 : OA P f.type k ok en) (h2 : OFs P fs (off + k) k2 ok2 en2) :
    OFs P (f :: fs) off (k + k2) (fun N (d : α × β) => ok N d.1 ∧ ok2 N d.2) (fun d => en d.1 ++ en2 d.2) :=
  ⟨fun m n d h k => ⟨h1.2.1 _ _ _ h k.1, h2.1 _ _ _ h k.2⟩, fun {H enc w base cs N} hf hl => by
    subst hoff
    obtain ⟨n, y, hy, hyb⟩ := hf f (by simp)
    rw [h1.1] at hy
    obtain ⟨a, a1, a2, a3, a4, a5⟩ := h1.2.2 hy
    obtain ⟨b, b1, b2, b3, b4⟩ := h2.2 (cs := cs) (N := N) (fun g hg => hf g (by simp [hg])) (by omega)
    have e0 : (cs.drop f.offset).take (k + k2) = (cs.drop f.offset).take k ++ (cs.drop (f.offset + k)).take k2 := by
      rw [List.take_add, List.drop_drop]
    refine ⟨(a, b), ⟨h1.2.1 _ _ _ hyb a1, b1⟩, fun φ κ => ?_, fun u hu => ?_, fun x hx => ?_⟩
    · rw [e0]; exact (a2 φ κ).append (b2 φ κ) fun _ => rfl
    · rw [e0] at hu; exact (List.mem_append.1 hu).elim (a3 u) (b3 u)
    · exact (List.mem_append.1 hx).elim (a4 x) (b4 x)⟩
theorem oa_struct {fs : Array Field} (ht : P.underlying t = some (.struct fs)) (hc : P.cellsOf t = k) (h : OFs P fs.toList 0 k ok en) : OA P t k ok en :=
  ⟨hc, h.1, fun {H enc w base fuel cs x} hx => by
    obtain ⟨xs, n, _, hxx, hl, hn, hg⟩ := DataW.trod_struct ht hx
    obtain ⟨d, d1, d2, d3, d4⟩ := h.2 (cs := cs) (N := Rows.uptoBulk x.1) (fun f hf => by
      obtain ⟨i, hi, rfl⟩ := List.mem_iff_getElem.1 hf
      have hi' : i < fs.size := by simpa using hi
      have := hg i (fs.toList[i]) (by simp [hi'])
      rw [List.getElem?_eq_getElem (by omega)] at this
      refine ⟨n, _, this, ?_⟩
      have hb := bulk_part (d := (xs[i]'(by omega)).1) (l := xs.map (·.1)) (List.mem_map.2 ⟨_, List.getElem_mem _, rfl⟩)
      rw [hxx]
      simp only [Rows.uptoBulk]
      omega) (by omega)
    rw [hc] at hl
    have e0 : (cs.drop 0).take k = cs := by rw [List.drop_zero]; exact List.take_of_length_le (by omega)
    rw [e0] at d2 d3
    exact ⟨d, d1, d2, d3, d4, hl⟩⟩

/-! arguments -/
variable {H : Type} {enc : TypeId × Value → H} {w : World} {base b0 : Nat} {r : Reach} {v : Value} {d : DataW H} {p : List MemPlace}
theorem arg_ag {fs : Array Field} (ht : P.underlying t = some (.struct fs)) (hE : OA P t k ok en) (hv : Value.okWide P w r b0 t v) (h : DataW.Trod enc P w base (fun _ => true) true t v d p) :
    ∃ x, ok (Rows.uptoBulk d) x ∧ ∀ φ κ, RV w φ κ (fun b => b < w.heap.size) (.ag (en x)) v Ct.z := by
  obtain ⟨cs, rfl, _⟩ := okWide_struct ht hv
  obtain ⟨fuel, hf⟩ := h
  obtain ⟨x, x1, x2, x3, _⟩ := hE.2.2 hf
  simp only [Value.cells] at x2 x3
  refine ⟨x, x1, fun φ κ => ?_⟩
  have := RV.ag (x2 φ κ) x3
  simpa using this
theorem arg_1 {f : α → AV} (hE : OA P t 1 ok (fun x => [f x])) (hv : v.cells.toList = [v]) (h : DataW.Trod enc P w base (fun _ => true) true t v d p) :
    ∃ x, ok (Rows.uptoBulk d) x ∧ ∀ φ κ, RV w φ κ (fun b => b < w.heap.size) (f x) v Ct.z := by
  obtain ⟨fuel, hf⟩ := h
  obtain ⟨x, x1, x2, x3, _⟩ := hE.2.2 hf
  refine ⟨x, x1, fun φ κ => ?_⟩
  have h1 := x2 φ κ
  rw [hv] at h1
  cases h1 with
  | cons a b c => obtain ⟨rfl, rfl⟩ := Ct.split c; exact a
theorem cells_slice (ht : P.underlying t = some (.slice e)) (hv : Value.okWide P w r b0 t v) : v.cells.toList = [v] := by
  unfold Value.okWide at hv
  rw [ht] at hv
  cases v with
  | agg cs => simp only [Cell.okWide, ht] at hv; simp [Cell.ok, ht] at hv
  | tuple cs => simp only [Cell.okWide, ht] at hv; simp [Cell.ok, ht] at hv
  | _ => rfl
theorem cells_int {κ : IntKind} (ht : P.underlying t = some (.int κ)) (hv : Value.okWide P w r b0 t v) : v.cells.toList = [v] := by
  unfold Value.okWide at hv
  rw [ht] at hv
  cases v with
  | agg cs => simp only [Cell.okWide, ht] at hv; simp [Cell.ok, ht] at hv
  | tuple cs => simp only [Cell.okWide, ht] at hv; simp [Cell.ok, ht] at hv
  | _ => rfl
theorem cells_bool (ht : P.underlying t = some .bool) (hv : Value.okWide P w r b0 t v) : v.cells.toList = [v] := by
  unfold Value.okWide at hv
  rw [ht] at hv
  cases v with
  | agg cs => simp only [Cell.okWide, ht] at hv; simp [Cell.ok, ht] at hv
  | tuple cs => simp only [Cell.okWide, ht] at hv; simp [Cell.ok, ht] at hv
  | _ => rfl
theorem cells_string (ht : P.underlying t = some .string) (hv : Value.okWide P w r b0 t v) : v.cells.toList = [v] := by
  unfold Value.okWide at hv
  rw [ht] at hv
  cases v with
  | agg cs => simp only [Cell.okWide, ht] at hv; simp [Cell.ok, ht] at hv
  | tuple cs => simp only [Cell.okWide, ht] at hv; simp [Cell.ok, ht] at hv
  | _ => rfl

/-! what was there reads as it did -/
theorem trodAll_below (hl : laidOutB P = true) {W W' : World} (hb : Below W.heap.size W W') :
    ∀ (ts : List TypeId) (vs : List Value) (ds : List (DataW H)) (ps : List MemPlace), (∀ t ∈ ts, P.readableRec t = true ∧ t < P.types.size) → (∀ x ∈ ps, x.block < W.heap.size) →
      DataW.TrodAll enc P W 0 (fun _ => true) true ts vs ds ps → DataW.TrodAll enc P W' 0 (fun b => decide (b < W.heap.size)) true ts vs ds ps
  | [], [], [], ps, _, _, h => h
  | t :: ts, v :: vs, d :: ds, ps, hr, hlt, h => by
    obtain ⟨p, q, hd, hs, rfl⟩ := h
    have hrt := hr t (by simp)
    exact ⟨p, q, Below.trod hl hrt.1 hrt.2 hd hb fun x hx => hlt x (by simp [hx]), trodAll_below hl hb ts vs ds q (fun t ht => hr t (by simp [ht])) (fun x hx => hlt x (by simp [hx])) hs, rfl⟩
  | [], _ :: _, _, _, _, _, h => by simp [DataW.TrodAll] at h
  | [], [], _ :: _, _, _, _, h => by simp [DataW.TrodAll] at h
  | _ :: _, [], _, _, _, _, h => by simp [DataW.TrodAll] at h
  | _ :: _, _ :: _, [], _, _, _, h => by simp [DataW.TrodAll] at h
/-- THE LAST STEP: the law returns true and leaves alone what was there -/
theorem law_post {f : Func} {s : ChangeSpec} {apart fresh handsOn : Bool} {W W' : World} {args : Array Value} {ds gs : List (DataW H)} {before : List MemPlace} {tb : TypeId}
    (hl : laidOutB P = true) (hv : s.vars = []) (hrt : f.resultTypes = #[tb]) (hub : P.underlying tb = some .bool) (hread : (f.params.toList.all fun t => P.readableRec t && decide (t < P.types.size)) = true)
    (hW : DataW.Whole enc P f.params.toList s.vars apart W args.toList ds gs before) (hfn : ∀ gs', gs' = [] → s.fn H (ds ++ gs') = { results := [.lit (.bool true)], args := ds }) (hb : Below W.heap.size W W') :
    s.post enc P f apart fresh handsOn false W args (.bool true) W' := by
  have hread' : ∀ t ∈ f.params.toList, P.readableRec t = true ∧ t < P.types.size := fun t ht => by
    have := List.all_eq_true.1 hread t ht
    simpa using this
  have hW' := hW
  obtain ⟨p, q, hA, hV, rfl, hfz, hnd⟩ := hW
  rw [hv] at hV
  obtain ⟨rfl, rfl⟩ := trodVars_none hV
  have hlt : ∀ x ∈ p, x.block < W.heap.size := fun x hx => hW'.lt x (by simpa using hx)
  refine ⟨ds, [], p ++ [], [], p, [], hW', ?_, ?_, ?_, ?_, fun h => by cases h⟩
  · rw [hfn [] rfl, hrt]
    exact trodAll_mk1 (shut_bool hub true)
  · rw [hfn [] rfl]
    exact trodAll_below hl hb _ _ _ _ hread' hlt hA
  · rw [hv, hfn [] rfl]
    rfl
  · refine World.keptBut_mono (fun x hx => ⟨hx, .inr (.inl (by simpa using hx))⟩) (hb.frame (· ∈ p ++ []))
/-- a contract that tells true, in the world that the law is called in -/
theorem ac_law {fn : Nat} {args : List AV} {vs : List Value} {W : World} (h : AC P fn args [] (fun v bs' => v = .sc (.bool true) ∧ bs' = [])) (ha : ∀ φ κ, RC W φ κ (fun b => b < W.heap.size) args vs Ct.z) :
    Calls P fn vs.toArray W fun e W' => e = .returned (.bool true) ∧ Below W.heap.size W W' := by
  refine (h.2 W (fun _ _ => none) (fun _ _ => none) _ vs [] Ct.z Ct.z (ha _ _) .nil (fun i g hi => by simp at hi) (fun _ _ _ => rfl) (fun _ _ => rfl) (fun x => by simp [Ct.z]) (fun x hx => by simp [Ct.z] at hx) (fun x hx => ⟨hx, rfl⟩)).mono ?_
  rintro e W' ⟨v, r, bs', gs', Sr, Sb', φ', F, rfl, ⟨rfl, rfl⟩, hr, _, _, _, _, _, _, hf⟩
  cases hr with
  | sc => exact ⟨rfl, hf.os, hf.tape, hf.output, hf.size, fun b hb => hf.block b hb rfl⟩
theorem bulk_of {l : List (DataW H)} (hk : Rows.uptoSmall H l = true) : Rows.uptoBulkAll l ≤ 1048576 := of_decide_eq_true hk
end
end Go.Proofs.Ytnjfchigdpifmaa

namespace Go.Proofs.Ytnjfchigdpifmaa
set_option linter.unusedVariables false
set_option linter.unusedSimpArgs false
open Go.RowKit Go.ChangeShapes Go.WideShapes Go.ChangeAt Go.Deep
set_option maxRecDepth 100000
theorem laidOut : laidOutB Try.prog = true := by kernel_rfl
theorem own_knob : ownKnob Try.prog.godebug = none := by kernel_rfl
def I64 (x : Int) : Prop := -9223372036854775808 ≤ x ∧ x ≤ 9223372036854775807
theorem i64_of {x : Int} (h : (Lit.int .i64 x).wf = true) : I64 x := by simpa [Lit.wf, IntKind.min, IntKind.max, IntKind.signed, IntKind.bits, I64] using h
theorem u8_of {x : Int} (h : (Lit.int .u8 x).wf = true) : 0 ≤ x ∧ x ≤ 255 := by simpa [Lit.wf, IntKind.min, IntKind.max, IntKind.signed, IntKind.bits] using h
theorem oi : OA Try.prog 3 1 (fun _ x => I64 x) (fun x => [I x]) := (oa_int Try.underlying3 (by kernel_rfl)).map id (fun _ _ _ _ h => h) (fun _ _ h => i64_of h) fun _ => rfl
theorem obl : OA Try.prog 4 1 (fun _ (_ : Bool) => True) (fun x => [B x]) := oa_bool Try.underlying4 (by kernel_rfl)
theorem ou : OA Try.prog 5 1 (fun _ (_ : UInt8) => True) eB := (oa_int Try.underlying5 (by kernel_rfl)).wmap (fun x : Int => UInt8.ofNat x.toNat) (fun _ _ _ _ h => h) (fun _ _ _ => trivial) fun n x hx => by
  have h := u8_of hx
  have e : ((UInt8.ofNat x.toNat).toNat : Int) = x := by rw [UInt8.toNat_ofNat']; omega
  simp only [eB, U, e]
theorem obs : OA Try.prog 22 1 (fun N (l : List UInt8) => (∀ x ∈ l, True) ∧ l.length < N) (fun l => [bs none l]) := oa_slice (by decide) Try.underlying22 (by kernel_rfl) ou
end Go.Proofs.Ytnjfchigdpifmaa
