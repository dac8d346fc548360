/-
  Texts joined: W6, W7, M1, W8, M2, M3, M4, V1, Ca, V2, V3, Va, M5, W11, W12.
-/
import Derived.Test.YtpdegeknhapgmaaZ1
import Derived.Test.YtpdegeknhapgmaaZ2
namespace Go.Proofs.Ytpdegeknhapgmaa
set_option linter.unusedVariables false
set_option linter.unusedSimpArgs false
set_option maxHeartbeats 8000000
open Go.RowKit
set_option maxRecDepth 100000
def clientS (who id : Int) : Bool := decide (0 ≤ who) && decide (who < 4) && decide (1 ≤ id)
def mayE (e : Entry) : Bool := decide (1 ≤ e.pos) && decide (0 ≤ e.stamp) && clientS e.client e.id && decide (e.body.length ≤ 1024)
def allG (p : Nat → Member → Bool) : Nat → List Member → Bool
  | _, [] => true
  | k, m :: l => p k m && allG p (k + 1) l
theorem client_ac (who id : Int) : AC Try.prog 47 [I who, I id] [] (fun v bs => v = B (clientS who id) ∧ bs = []) := by
  refine AC.N Try.func47 Try.ntmps47 ?_
  intro X
  simp only [nx, Nat.reduceAdd, Nat.reduceSub, BEq.rfl]
  repeat' (first
    | ((first
    | ((with_reducible apply AP.k_any); first
             | refine AP.S ?_
             | (refine AP.Y ?_; dsimp only) | refine AP.G (fun hg => ?_) (fun hg => ?_)
      )
    
    
    )
      <;> (try simp only [nx, Nat.reduceAdd, Nat.reduceSub, BEq.rfl]))
    | ((with_reducible apply AP.k_nil); first
        | (refine AP.nil (hQ' _ ?_); clear hQ' Q')
        | refine AP.nil ?_)
    | ((with_reducible apply CP.k_reg); refine cp_regG fun Q' hQ' => ?_)
      | (with_reducible apply CP.k_reg1; refine cp_region ?_)
      | ((with_reducible apply CP.k_cond); first | refine cp_condT rfl ?_ | refine cp_condF rfl ?_ | refine cp_cond rfl (fun hc => ?_) (fun hc => ?_))
      | refine CP.go ?_
      | (simp only [List.append_eq, List.cons_append, List.nil_append]))
  all_goals (refine RetQ.B [] ?_; (try dsimp only [resV, List.getD_cons_succ, List.getD_cons_zero]); ((refine ⟨?_, rfl⟩; simp at *; simp [clientS]; try omega)))
theorem mayEntry_ac (e : Entry) : AC Try.prog 17 [.ag (eE none e)] [] (fun v bs => v = B (mayE e) ∧ bs = []) := by
  refine AC.N Try.func17 Try.ntmps17 ?_
  intro X
  simp only [nx, Nat.reduceAdd, Nat.reduceSub, BEq.rfl]
  repeat' (first
    | ((first
    | ((with_reducible apply AP.k_any); first
             | refine AP.S ?_
             | (refine AP.Y ?_; dsimp only) | refine AP.G (fun hg => ?_) (fun hg => ?_)
      )
    | ((with_reducible apply AP.k_any); refine AP.C (client_ac _ _) ?_)
    
    | ((with_reducible apply AQ.k_any); refine AQ.CQ (client_ac _ _) ?_))
      <;> (try simp only [nx, Nat.reduceAdd, Nat.reduceSub, BEq.rfl]))
    | ((with_reducible apply AP.k_nil); first
        | (refine AP.nil (hQ' _ ?_); clear hQ' Q')
        | refine AP.nil ?_)
    | ((with_reducible apply CP.k_reg); refine cp_regG fun Q' hQ' => ?_)
      | (with_reducible apply CP.k_reg1; refine cp_region ?_)
      | ((with_reducible apply CP.k_cond); first | refine cp_condT rfl ?_ | refine cp_condF rfl ?_ | refine cp_cond rfl (fun hc => ?_) (fun hc => ?_))
      | refine CP.go ?_
      | (simp only [List.append_eq, List.cons_append, List.nil_append]))
  all_goals (refine RetQ.B [] ?_; (try dsimp only [resV, List.getD_cons_succ, List.getD_cons_zero]); ((refine ⟨?_, rfl⟩; simp at *; simp [mayE, *]; try omega)))
theorem all1_ac (f : Nat) (c : Config) (p : Nat → Member → Bool) (l : List Member) (hl : l.length ≤ 100000000) (hf : ∀ (i : Nat) (h : i < l.length), AC Try.prog f [I i, .ag (eM l[i]), .bp 0 0 0] [.c 27 (eC none c)] (fun v bs => v = B (p i l[i]) ∧ bs = [.c 27 (eC none c)])) :
    AC Try.prog 49 [ms none l, .fn f [.bp 0 0 0]] [.c 27 (eC none c)] (fun v bs => v = B (allG p 0 l) ∧ bs = [.c 27 (eC none c)]) := by
  refine AC.N Try.func49 Try.ntmps49 ?_
  intro X
  simp only [nx, Nat.reduceAdd, Nat.reduceSub, BEq.rfl]
  repeat' (first
    | ((first
    | ((with_reducible apply AP.k_any); first
             | refine AP.S ?_
             | refine AP.E ?_
             | refine AP.T ?_
      )
    
    )
      <;> (try simp only [nx, Nat.reduceAdd, Nat.reduceSub, BEq.rfl]))
    | ((with_reducible apply AP.k_nil); first
        | (refine AP.nil (hQ' _ ?_); clear hQ' Q')
        | refine AP.nil ?_)
    | ((with_reducible apply CP.k_reg); refine cp_regG fun Q' hQ' => ?_)
      | (with_reducible apply CP.k_reg1; refine cp_region ?_)
      | ((with_reducible apply CP.k_cond); first | refine cp_condT rfl ?_ | refine cp_condF rfl ?_ | refine cp_cond rfl (fun hc => ?_) (fun hc => ?_))
      | refine CP.go ?_
      | (simp only [List.append_eq, List.cons_append, List.nil_append]))
  refine CP.gh gh_slot ?_
  simp only [nx, Nat.reduceAdd, Nat.reduceSub, BEq.rfl]
  refine cp_loopS [4, 5, 6, 9, 10, 11, 12, 13, 14, 15, 16, 17, 18, 19] (fun a : Nat × Nat => l.length - a.1) (fun a => a.1 ≤ l.length ∧ allG p 0 l = allG p a.1 (l.drop a.1)) (fun a => [(9, I a.1)]) (fun a => [(1, ⟨a.2, .x⟩)]) (0, 0) ⟨Nat.zero_le _, rfl⟩ (by exact Gh.W) ?_
  rintro ⟨k, u⟩ ⟨hk, he⟩
  simp only [setT, deT, setB, List.set_cons_succ, List.set_cons_zero]
  dsimp only at hk he
  by_cases hlt : k < l.length
  · have hw : IntKind.i64.wrap ((k : Int) + 1) = ((k + 1 : Nat) : Int) := wrap_i64 (by omega) (by omega)
    rw [List.drop_eq_getElem_cons hlt, allG] at he
    repeat' (first
      | ((first
      | ((with_reducible apply AP.k_any); first
               | refine AP.S ?_
               | refine AP.E ?_
               | refine AP.T ?_
        )
      | ((with_reducible apply AP.k_any); refine ap_callB 0 [(0, 0)] rfl rfl (fn := f) rfl (hf k hlt) (by (repeat' (first | exact PasC.nil | apply PasC.nil | apply PasC.cons | apply PasV.leaf rfl | apply PasV.nl | apply PasV.bp rfl | apply PasV.lend rfl rfl rfl | apply PasV.lend rfl rfl (ro_B _) | apply PasV.lend rfl rfl (ro_M _) | apply PasV.lend rfl rfl (ro_E _ _) | apply PasV.lend rfl rfl (ro_I _) | apply PasV.mv rfl | apply PasV.ag | apply PasV.fn | exact PasV.fs | apply PasV.any))) (by (repeat' (first | exact Out.nil | apply Out.cons rfl | exact ClsC.nil | apply ClsC.nl | apply ClsC.leaf rfl | apply ClsC.hd rfl | apply ClsC.fn | apply ClsC.fz rfl (ro_B _) | apply ClsC.fz rfl (ro_M _) | apply ClsC.fz rfl (ro_E _ _) | apply ClsC.fz rfl rfl))) rfl (by (repeat' (first | exact Bk.nil | apply Bk.cons rfl rfl rfl))) (by (repeat' (first | exact RnV.leaf rfl | exact RnC.nil | apply RnC.cons | apply RnV.ag | apply RnV.tu | exact RnV.bp rfl))) rfl ?_)
      )
        <;> (try simp only [nx, Nat.reduceAdd, Nat.reduceSub, BEq.rfl]))
      | ((with_reducible apply AP.k_nil); first
          | (refine AP.nil (hQ' _ ?_); clear hQ' Q')
          | refine AP.nil ?_)
      | ((with_reducible apply CP.k_reg); refine cp_regG fun Q' hQ' => ?_)
        | (with_reducible apply CP.k_reg1; refine cp_region ?_)
        | ((with_reducible apply CP.k_cond); first | refine cp_condT rfl ?_ | refine cp_condF rfl ?_ | refine cp_cond rfl (fun hc => ?_) (fun hc => ?_))
        | refine CP.go ?_
        | (simp only [List.append_eq, List.cons_append, List.nil_append]))
    · (refine RetQ.B [(0, 0)] ?_; (try dsimp only [resV, List.getD_cons_succ, List.getD_cons_zero]); ((have h : p k l[k] = false := by simpa using hc); exact ⟨by rw [he, h, Bool.false_and], rfl⟩))
    · simp only [hw]
      exact ⟨(k + 1, u + 1), by (dsimp only; omega), ⟨by (dsimp only; omega), by (have h : p k l[k] = true := by simpa using hc); rw [he, h, Bool.true_and]⟩, by exact Gh.W⟩
    · exfalso; simp at *; omega
  · rw [List.drop_of_length_le (by omega), allG] at he
    repeat' (first
      | ((first
      | ((with_reducible apply AP.k_any); first
               | refine AP.S ?_
               | refine AP.E ?_
               | refine AP.T ?_
        )
      
      )
        <;> (try simp only [nx, Nat.reduceAdd, Nat.reduceSub, BEq.rfl]))
      | ((with_reducible apply AP.k_nil); first
          | (refine AP.nil (hQ' _ ?_); clear hQ' Q')
          | refine AP.nil ?_)
      | ((with_reducible apply CP.k_reg); refine cp_regG fun Q' hQ' => ?_)
        | (with_reducible apply CP.k_reg1; refine cp_region ?_)
        | ((with_reducible apply CP.k_cond); first | refine cp_condT rfl ?_ | refine cp_condF rfl ?_ | refine cp_cond rfl (fun hc => ?_) (fun hc => ?_))
        | refine CP.go ?_
        | (simp only [List.append_eq, List.cons_append, List.nil_append]))
    all_goals first
      | (exfalso; simp at *; done)
      | (exfalso; simp at *; omega)
      | (refine RetQ.B [(0, 0)] ?_; (try dsimp only [resV, List.getD_cons_succ, List.getD_cons_zero]); (exact ⟨by rw [he], rfl⟩))
theorem all2_ac (f : Nat) (m : Member) (p : Nat → Member → Bool) (l : List Member) (hl : l.length ≤ 100000000) (hf : ∀ (i : Nat) (h : i < l.length), AC Try.prog f [I i, .ag (eM l[i]), .bp 0 0 0] [.c tM (eM m)] (fun v bs => v = B (p i l[i]) ∧ bs = [.c tM (eM m)])) :
    AC Try.prog 49 [ms none l, .fn f [.bp 0 0 0]] [.c tM (eM m)] (fun v bs => v = B (allG p 0 l) ∧ bs = [.c tM (eM m)]) := by
  refine AC.N Try.func49 Try.ntmps49 ?_
  intro X
  simp only [nx, Nat.reduceAdd, Nat.reduceSub, BEq.rfl]
  repeat' (first
    | ((first
    | ((with_reducible apply AP.k_any); first
             | refine AP.S ?_
             | refine AP.E ?_
             | refine AP.T ?_
      )
    
    )
      <;> (try simp only [nx, Nat.reduceAdd, Nat.reduceSub, BEq.rfl]))
    | ((with_reducible apply AP.k_nil); first
        | (refine AP.nil (hQ' _ ?_); clear hQ' Q')
        | refine AP.nil ?_)
    | ((with_reducible apply CP.k_reg); refine cp_regG fun Q' hQ' => ?_)
      | (with_reducible apply CP.k_reg1; refine cp_region ?_)
      | ((with_reducible apply CP.k_cond); first | refine cp_condT rfl ?_ | refine cp_condF rfl ?_ | refine cp_cond rfl (fun hc => ?_) (fun hc => ?_))
      | refine CP.go ?_
      | (simp only [List.append_eq, List.cons_append, List.nil_append]))
  refine CP.gh gh_slot ?_
  simp only [nx, Nat.reduceAdd, Nat.reduceSub, BEq.rfl]
  refine cp_loopS [4, 5, 6, 9, 10, 11, 12, 13, 14, 15, 16, 17, 18, 19] (fun a : Nat × Nat => l.length - a.1) (fun a => a.1 ≤ l.length ∧ allG p 0 l = allG p a.1 (l.drop a.1)) (fun a => [(9, I a.1)]) (fun a => [(1, ⟨a.2, .x⟩)]) (0, 0) ⟨Nat.zero_le _, rfl⟩ (by exact Gh.W) ?_
  rintro ⟨k, u⟩ ⟨hk, he⟩
  simp only [setT, deT, setB, List.set_cons_succ, List.set_cons_zero]
  dsimp only at hk he
  by_cases hlt : k < l.length
  · have hw : IntKind.i64.wrap ((k : Int) + 1) = ((k + 1 : Nat) : Int) := wrap_i64 (by omega) (by omega)
    rw [List.drop_eq_getElem_cons hlt, allG] at he
    repeat' (first
      | ((first
      | ((with_reducible apply AP.k_any); first
               | refine AP.S ?_
               | refine AP.E ?_
               | refine AP.T ?_
        )
      | ((with_reducible apply AP.k_any); refine ap_callB 0 [(0, 0)] rfl rfl (fn := f) rfl (hf k hlt) (by (repeat' (first | exact PasC.nil | apply PasC.nil | apply PasC.cons | apply PasV.leaf rfl | apply PasV.nl | apply PasV.bp rfl | apply PasV.lend rfl rfl rfl | apply PasV.lend rfl rfl (ro_B _) | apply PasV.lend rfl rfl (ro_M _) | apply PasV.lend rfl rfl (ro_E _ _) | apply PasV.lend rfl rfl (ro_I _) | apply PasV.mv rfl | apply PasV.ag | apply PasV.fn | exact PasV.fs | apply PasV.any))) (by (repeat' (first | exact Out.nil | apply Out.cons rfl | exact ClsC.nil | apply ClsC.nl | apply ClsC.leaf rfl | apply ClsC.hd rfl | apply ClsC.fn | apply ClsC.fz rfl (ro_B _) | apply ClsC.fz rfl (ro_M _) | apply ClsC.fz rfl (ro_E _ _) | apply ClsC.fz rfl rfl))) rfl (by (repeat' (first | exact Bk.nil | apply Bk.cons rfl rfl rfl))) (by (repeat' (first | exact RnV.leaf rfl | exact RnC.nil | apply RnC.cons | apply RnV.ag | apply RnV.tu | exact RnV.bp rfl))) rfl ?_)
      )
        <;> (try simp only [nx, Nat.reduceAdd, Nat.reduceSub, BEq.rfl]))
      | ((with_reducible apply AP.k_nil); first
          | (refine AP.nil (hQ' _ ?_); clear hQ' Q')
          | refine AP.nil ?_)
      | ((with_reducible apply CP.k_reg); refine cp_regG fun Q' hQ' => ?_)
        | (with_reducible apply CP.k_reg1; refine cp_region ?_)
        | ((with_reducible apply CP.k_cond); first | refine cp_condT rfl ?_ | refine cp_condF rfl ?_ | refine cp_cond rfl (fun hc => ?_) (fun hc => ?_))
        | refine CP.go ?_
        | (simp only [List.append_eq, List.cons_append, List.nil_append]))
    · (refine RetQ.B [(0, 0)] ?_; (try dsimp only [resV, List.getD_cons_succ, List.getD_cons_zero]); ((have h : p k l[k] = false := by simpa using hc); exact ⟨by rw [he, h, Bool.false_and], rfl⟩))
    · simp only [hw]
      exact ⟨(k + 1, u + 1), by (dsimp only; omega), ⟨by (dsimp only; omega), by (have h : p k l[k] = true := by simpa using hc); rw [he, h, Bool.true_and]⟩, by exact Gh.W⟩
    · exfalso; simp at *; omega
  · rw [List.drop_of_length_le (by omega), allG] at he
    repeat' (first
      | ((first
      | ((with_reducible apply AP.k_any); first
               | refine AP.S ?_
               | refine AP.E ?_
               | refine AP.T ?_
        )
      
      )
        <;> (try simp only [nx, Nat.reduceAdd, Nat.reduceSub, BEq.rfl]))
      | ((with_reducible apply AP.k_nil); first
          | (refine AP.nil (hQ' _ ?_); clear hQ' Q')
          | refine AP.nil ?_)
      | ((with_reducible apply CP.k_reg); refine cp_regG fun Q' hQ' => ?_)
        | (with_reducible apply CP.k_reg1; refine cp_region ?_)
        | ((with_reducible apply CP.k_cond); first | refine cp_condT rfl ?_ | refine cp_condF rfl ?_ | refine cp_cond rfl (fun hc => ?_) (fun hc => ?_))
        | refine CP.go ?_
        | (simp only [List.append_eq, List.cons_append, List.nil_append]))
    all_goals first
      | (exfalso; simp at *; done)
      | (exfalso; simp at *; omega)
      | (refine RetQ.B [(0, 0)] ?_; (try dsimp only [resV, List.getD_cons_succ, List.getD_cons_zero]); (exact ⟨by rw [he], rfl⟩))
end Go.Proofs.Ytpdegeknhapgmaa

namespace Go.Proofs.Ytpdegeknhapgmaa
set_option linter.unusedVariables false
set_option linter.unusedSimpArgs false
set_option maxHeartbeats 8000000
open Go.RowKit
set_option maxRecDepth 100000
def pNode (n : Int) : Nat → Member → Bool := fun _ x => x.node != n
def pMem (c : Config) : Nat → Member → Bool := fun i m => decide (0 ≤ m.node) && decide (m.node < 5) && decide (1 ≤ m.since) && decide (m.since ≤ c.epoch) && allG (pNode m.node) 0 (c.members.take i)
def mayCfg (c : Config) : Bool := decide (1 ≤ c.epoch) && decide (c.members.length ≤ 5) && allG (pMem c) 0 c.members
theorem mc2_ac (i : Nat) (x m : Member) : AC Try.prog 51 [I i, .ag (eM x), .bp 0 0 0] [.c tM (eM m)] (fun v bs => v = B (pNode m.node i x) ∧ bs = [.c tM (eM m)]) := by
  refine AC.N Try.func51 Try.ntmps51 ?_
  intro X
  simp only [nx, Nat.reduceAdd, Nat.reduceSub, BEq.rfl]
  repeat' (first
    | ((first
    | ((with_reducible apply AP.k_any); first
             | refine AP.S ?_
      )
    
    )
      <;> (try simp only [nx, Nat.reduceAdd, Nat.reduceSub, BEq.rfl]))
    | ((with_reducible apply AP.k_nil); first
        | (refine AP.nil (hQ' _ ?_); clear hQ' Q')
        | refine AP.nil ?_)
    | ((with_reducible apply CP.k_reg); refine cp_regG fun Q' hQ' => ?_)
      | (with_reducible apply CP.k_reg1; refine cp_region ?_)
      | ((with_reducible apply CP.k_cond); first | refine cp_condT rfl ?_ | refine cp_condF rfl ?_ | refine cp_cond rfl (fun hc => ?_) (fun hc => ?_))
      | refine CP.go ?_
      | (simp only [List.append_eq, List.cons_append, List.nil_append]))
  (refine RetQ.B [(0, 0)] ?_; (try dsimp only [resV, List.getD_cons_succ, List.getD_cons_zero]); (exact ⟨rfl, rfl⟩))
theorem mc1_ac (c : Config) (i : Nat) (m : Member) (hi : i ≤ c.members.length) (hl : c.members.length ≤ 100000000) : AC Try.prog 50 [I i, .ag (eM m), .bp 0 0 0] [.c 27 (eC none c)] (fun v bs => v = B (pMem c i m) ∧ bs = [.c 27 (eC none c)]) := by
  have h := all2_ac 51 m (pNode m.node) (c.members.take i) (by simp; omega) (fun k hk => mc2_ac k _ m)
  refine AC.N Try.func50 Try.ntmps50 ?_
  intro X
  simp only [nx, Nat.reduceAdd, Nat.reduceSub, BEq.rfl]
  repeat' (first
    | ((first
    | ((with_reducible apply AP.k_any); first
             | refine AP.S ?_
             | (refine AP.Y ?_; dsimp only) | refine AP.G (fun hg => ?_) (fun hg => ?_)
      )
    | ((with_reducible apply AP.k_any); refine AP.CB [(1, 1)] 0 (h) ?_)
    )
      <;> (try simp only [nx, Nat.reduceAdd, Nat.reduceSub, BEq.rfl]))
    | ((with_reducible apply AP.k_nil); first
        | (refine AP.nil (hQ' _ ?_); clear hQ' Q')
        | refine AP.nil ?_)
    | ((with_reducible apply CP.k_reg); refine cp_regG fun Q' hQ' => ?_)
      | (with_reducible apply CP.k_reg1; refine cp_region ?_)
      | ((with_reducible apply CP.k_cond); first | refine cp_condT rfl ?_ | refine cp_condF rfl ?_ | refine cp_cond rfl (fun hc => ?_) (fun hc => ?_))
      | refine CP.go ?_
      | (simp only [List.append_eq, List.cons_append, List.nil_append]))
  all_goals (refine RetQ.B [(0, 0)] ?_; (try dsimp only [resV, List.getD_cons_succ, List.getD_cons_zero]); ((refine ⟨?_, rfl⟩; simp at *; simp [pMem, *]; try omega)))
theorem mayConfig_ac (c : Config) (hl : c.members.length ≤ 100000000) : AC Try.prog 19 [.ag (eC none c)] [] (fun v bs => v = B (mayCfg c) ∧ bs = []) := by
  have h := all1_ac 50 c (pMem c) c.members hl (fun k hk => mc1_ac c k _ (by omega) hl)
  refine AC.N Try.func19 Try.ntmps19 ?_
  intro X
  simp only [nx, Nat.reduceAdd, Nat.reduceSub, BEq.rfl]
  repeat' (first
    | ((first
    | ((with_reducible apply AP.k_any); first
             | refine AP.S ?_
             | (refine AP.Y ?_; dsimp only) | refine AP.G (fun hg => ?_) (fun hg => ?_)
      )
    | ((with_reducible apply AP.k_any); refine AP.CB [(0, 1)] 0 (h) ?_)
    )
      <;> (try simp only [nx, Nat.reduceAdd, Nat.reduceSub, BEq.rfl]))
    | ((with_reducible apply AP.k_nil); first
        | (refine AP.nil (hQ' _ ?_); clear hQ' Q')
        | refine AP.nil ?_)
    | ((with_reducible apply CP.k_reg); refine cp_regG fun Q' hQ' => ?_)
      | (with_reducible apply CP.k_reg1; refine cp_region ?_)
      | ((with_reducible apply CP.k_cond); first | refine cp_condT rfl ?_ | refine cp_condF rfl ?_ | refine cp_cond rfl (fun hc => ?_) (fun hc => ?_))
      | refine CP.go ?_
      | (simp only [List.append_eq, List.cons_append, List.nil_append]))
  all_goals (refine RetQ.B [] ?_; (try dsimp only [resV, List.getD_cons_succ, List.getD_cons_zero]); ((refine ⟨?_, rfl⟩; simp at *; simp [mayCfg, *]; try omega)))
/-- what an entry, a configuration writes -/
def putE (st : Bool × List UInt8) (e : Entry) : Bool × List UInt8 := addS (addS (addS (addS (addS (addS st (intS e.pos)) (intS e.stamp)) (intS e.client)) (intS e.id)) (putS e.body.length 4)) e.body
def putR (st : Bool × List UInt8) (e : Entry) : Bool × List UInt8 := addS (addS (addS (addS (addS st (intS e.stamp)) (intS e.client)) (intS e.id)) (putS e.body.length 4)) e.body
def putM (st : Bool × List UInt8) (m : Member) : Bool × List UInt8 := addS (addS (addS st (intS m.node)) (intS m.since)) (flagS m.whole)
def putC (st : Bool × List UInt8) (c : Config) : Bool × List UInt8 := c.members.foldl putM (addS (addS st (intS c.epoch)) (intS c.members.length))
theorem putRest_ac (st : Bool × List UInt8) (e : Entry) (hst : st.2.length ≤ 65536) (hb : e.body.length ≤ 100000000) :
    AC Try.prog 39 [.bp 0 0 0, .ag (eE none e)] [wB st] (fun v bs => v = .bp 0 0 0 ∧ bs = [wB (putR st e)]) := by
  have h1 := addS_len (st := st) (b := intS e.stamp) hst
  have h2 := addS_len (b := intS e.client) h1
  have h3 := addS_len (b := intS e.id) h2
  refine AC.N Try.func39 Try.ntmps39 ?_
  intro X
  simp only [nx, Nat.reduceAdd, Nat.reduceSub, BEq.rfl]
  repeat' (first
    | ((first
    | ((with_reducible apply AP.k_any); first
             | refine AP.S ?_
      )
    
    )
      <;> (try simp only [nx, Nat.reduceAdd, Nat.reduceSub, BEq.rfl]))
    | ((with_reducible apply AP.k_nil); first
        | (refine AP.nil (hQ' _ ?_); clear hQ' Q')
        | refine AP.nil ?_)
    | ((with_reducible apply CP.k_reg); refine cp_regG fun Q' hQ' => ?_)
      | (with_reducible apply CP.k_reg1; refine cp_region ?_)
      | ((with_reducible apply CP.k_cond); first | refine cp_condT rfl ?_ | refine cp_condF rfl ?_ | refine cp_cond rfl (fun hc => ?_) (fun hc => ?_))
      | refine CP.go ?_
      | (simp only [List.append_eq, List.cons_append, List.nil_append]))
  refine cp_drawI (fun zs zb => ⟨setT zs.t [(5, cond (zb.getD 0 false) (.bp 0 0 0) (.tu [])), (6, cond (zb.getD 1 false) (.bp 2 1 1) (.tu [])), (7, cond (zb.getD 2 false) (I e.stamp) (.tu [])), (8, cond (zb.getD 3 false) (.bp 0 0 0) (.tu [])), (9, cond (zb.getD 4 false) (.bp 2 1 2) (.tu [])), (10, cond (zb.getD 5 false) (I e.client) (.tu [])), (11, cond (zb.getD 6 false) (.bp 0 0 0) (.tu [])), (12, cond (zb.getD 7 false) (.bp 2 1 3) (.tu [])), (13, cond (zb.getD 8 false) (I e.id) (.tu [])), (14, cond (zb.getD 9 false) (.bp 0 0 0) (.tu [])), (15, cond (zb.getD 10 false) (.bp 2 1 4) (.tu [])), (16, cond (zb.getD 11 false) (bs none e.body) (.tu [])), (17, cond (zb.getD 12 false) (.bp 0 0 0) (.tu [])), (4, cond (zb.getD 13 false) (.bp 0 0 0) (.sc (.pointer none)))], ((zs.b.set 0 (cond (zb.getD 12 false) (⟨0, .c tW [B true, B (putR st e).1, .hd 1 5]⟩) (cond (zb.getD 9 false) (⟨0, .c tW [B true, B (addS (addS (addS st (intS e.stamp)) (intS e.client)) (intS e.id)).1, .hd 1 4]⟩) (cond (zb.getD 6 false) (⟨0, .c tW [B true, B (addS (addS st (intS e.stamp)) (intS e.client)).1, .hd 1 3]⟩) (cond (zb.getD 3 false) (⟨0, .c tW [B true, B (addS st (intS e.stamp)).1, .hd 1 2]⟩) (zs.b.getD 0 ⟨0, .x⟩)))))).set 1 (cond (zb.getD 12 false) (⟨5, .r tU 1 ((putR st e).2.map eB)⟩) (cond (zb.getD 9 false) (⟨4, .r tU 1 ((addS (addS (addS st (intS e.stamp)) (intS e.client)) (intS e.id)).2.map eB)⟩) (cond (zb.getD 6 false) (⟨3, .r tU 1 ((addS (addS st (intS e.stamp)) (intS e.client)).2.map eB)⟩) (cond (zb.getD 3 false) (⟨2, .r tU 1 ((addS st (intS e.stamp)).2.map eB)⟩) (zs.b.getD 1 ⟨0, .x⟩))))))⟩) (by kernel_rfl) (by kernel_rfl) (by kernel_rfl) ?_ ?_
  rotate_left
  simp only [cond_true, cond_false, setT, List.set_cons_succ, List.set_cons_zero, List.getD_cons_succ, List.getD_cons_zero, List.set_cons_succ, List.length_cons, List.length_nil, List.replicate_succ, List.replicate_zero, Nat.reduceAdd]
  rotate_left
  · intro b hb' hcl
    obtain ⟨l0, b0, rfl, hb0⟩ := len_cons hb'
    obtain ⟨l1, b1, rfl, hb1⟩ := len_cons hb0
    obtain ⟨l2, b2, rfl, hb2⟩ := len_cons hb1
    obtain ⟨l3, b3, rfl, hb3⟩ := len_cons hb2
    obtain ⟨l4, b4, rfl, hb4⟩ := len_cons hb3
    obtain ⟨l5, b5, rfl, hb5⟩ := len_cons hb4
    obtain ⟨l6, b6, rfl, hb6⟩ := len_cons hb5
    obtain ⟨l7, b7, rfl, hb7⟩ := len_cons hb6
    obtain ⟨l8, b8, rfl, hb8⟩ := len_cons hb7
    obtain ⟨l9, b9, rfl, hb9⟩ := len_cons hb8
    obtain ⟨l10, b10, rfl, hb10⟩ := len_cons hb9
    obtain ⟨l11, b11, rfl, hb11⟩ := len_cons hb10
    obtain ⟨l12, b12, rfl, hb12⟩ := len_cons hb11
    obtain ⟨l13, b13, rfl, hb13⟩ := len_cons hb12
    obtain rfl := List.length_eq_zero_iff.1 hb13
    clear hb' hb0 hb1 hb2 hb3 hb4 hb5 hb6 hb7 hb8 hb9 hb10 hb11 hb12 hb13
    · simp only [closedB, depsOk, Region.binds, List.toList_toArray, List.all_cons, List.all_nil, List.getD_cons_succ, List.getD_cons_zero, Bool.not_true, Bool.not_false, Bool.true_or, Bool.false_or, Bool.and_true, Bool.true_and, Bool.or_true, Bool.and_false, Bool.or_false, Bool.false_and, Bool.and_eq_true, Bool.or_eq_true, Bool.not_eq_true'] at hcl
      simp only [StepsP]
      refine ⟨?_, ?_, ?_, ?_, ?_, ?_, ?_, ?_, ?_, ?_, ?_, ?_, ?_, ?_, trivial⟩
      · intro h1 h2
        simp [depsOk, Region.binds] at h1 h2
        subst h1
        (repeat (obtain ⟨rfl, h2⟩ := h2))
        (try subst h2)
        clear hcl
        simp only [cond_true, cond_false, setT, List.set_cons_succ, List.set_cons_zero, List.getD_cons_succ, List.getD_cons_zero, List.set_cons_succ]
        (with_reducible apply AP.k_any); first | (refine AP.sm false rfl ?_ ?_; focus ((repeat' (with_reducible apply And.intro)) <;> (first | exact True.intro | exact rfl | omega | (simp; omega) | (simp; done) | assumption | exact .inl rfl | (refine .inr ?_; simp; try omega)))) | fail "no step"
        all_goals (try simp only [nx, Nat.reduceAdd, Nat.reduceSub, BEq.rfl])
        refine AP.nil ?_
        exact ⟨rfl, rfl⟩
      · intro h1 h2
        simp [depsOk, Region.binds] at h1 h2
        subst h1
        (repeat (obtain ⟨rfl, h2⟩ := h2))
        (try subst h2)
        clear hcl
        simp only [cond_true, cond_false, setT, List.set_cons_succ, List.set_cons_zero, List.getD_cons_succ, List.getD_cons_zero, List.set_cons_succ]
        (with_reducible apply AP.k_any); first | (refine AP.sm false rfl ?_ ?_; focus ((repeat' (with_reducible apply And.intro)) <;> (first | exact True.intro | exact rfl | omega | (simp; omega) | (simp; done) | assumption | exact .inl rfl | (refine .inr ?_; simp; try omega)))) | fail "no step"
        all_goals (try simp only [nx, Nat.reduceAdd, Nat.reduceSub, BEq.rfl])
        refine AP.nil ?_
        exact ⟨rfl, rfl⟩
      · intro h1 h2
        simp [depsOk, Region.binds] at h1 h2
        subst h1
        (repeat (obtain ⟨rfl, h2⟩ := h2))
        (try subst h2)
        (first | (obtain rfl : l3 = false := by grind only) | skip)
        (first | (obtain rfl : l6 = false := by grind only) | skip)
        (first | (obtain rfl : l9 = false := by grind only) | skip)
        (first | (obtain rfl : l12 = false := by grind only) | skip)
        clear hcl
        simp only [cond_true, cond_false, setT, List.set_cons_succ, List.set_cons_zero, List.getD_cons_succ, List.getD_cons_zero, List.set_cons_succ]
        (with_reducible apply AP.k_any); first | (refine AP.sm false rfl ?_ ?_; focus ((repeat' (with_reducible apply And.intro)) <;> (first | exact True.intro | exact rfl | omega | (simp; omega) | (simp; done) | assumption | exact .inl rfl | (refine .inr ?_; simp; try omega)))) | (refine AP.el rfl ?_ (by (first | (refine ⟨?_, ?_⟩; assumption; rfl) | exact ⟨mapAt (by (first | omega | (simp; omega) | (simp; done) | assumption)), rfl⟩ | exact ⟨rfl, rfl⟩)) ?_; focus ((repeat' (with_reducible apply And.intro)) <;> (first | exact True.intro | exact rfl | omega | (simp; omega) | (simp; done) | assumption | exact .inl rfl | (refine .inr ?_; simp; try omega)))) | fail "no step"
        all_goals (try simp only [nx, Nat.reduceAdd, Nat.reduceSub, BEq.rfl])
        refine AP.nil ?_
        exact ⟨rfl, rfl⟩
      · intro h1 h2
        simp [depsOk, Region.binds] at h1 h2
        subst h1
        (repeat (obtain ⟨rfl, h2⟩ := h2))
        (try subst h2)
        (first | (obtain rfl : l6 = false := by grind only) | skip)
        (first | (obtain rfl : l9 = false := by grind only) | skip)
        (first | (obtain rfl : l12 = false := by grind only) | skip)
        clear hcl
        simp only [cond_true, cond_false, setT, List.set_cons_succ, List.set_cons_zero, List.getD_cons_succ, List.getD_cons_zero, List.set_cons_succ]
        (first
        | ((with_reducible apply AP.k_any); refine AP.CB [(0, 0)] 0 (wint_ac st e.stamp hst) ?_)
        | ((with_reducible apply AP.k_any); refine AP.CB [(0, 0)] 0 (wint_ac _ e.client h1) ?_)
        | ((with_reducible apply AP.k_any); refine AP.CB [(0, 0)] 0 (wint_ac _ e.id h2) ?_)
        | ((with_reducible apply AP.k_any); refine AP.CB [(0, 0)] 0 (wbytes_ac _ e.body h3 hb) ?_)
        | fail "no arm")
        all_goals (try simp only [nx, Nat.reduceAdd, Nat.reduceSub, BEq.rfl])
        refine AP.nil ?_
        exact ⟨rfl, rfl⟩
      · intro h1 h2
        simp [depsOk, Region.binds] at h1 h2
        subst h1
        (repeat (obtain ⟨rfl, h2⟩ := h2))
        (try subst h2)
        clear hcl
        simp only [cond_true, cond_false, setT, List.set_cons_succ, List.set_cons_zero, List.getD_cons_succ, List.getD_cons_zero, List.set_cons_succ]
        (with_reducible apply AP.k_any); first | (refine AP.sm false rfl ?_ ?_; focus ((repeat' (with_reducible apply And.intro)) <;> (first | exact True.intro | exact rfl | omega | (simp; omega) | (simp; done) | assumption | exact .inl rfl | (refine .inr ?_; simp; try omega)))) | fail "no step"
        all_goals (try simp only [nx, Nat.reduceAdd, Nat.reduceSub, BEq.rfl])
        refine AP.nil ?_
        exact ⟨rfl, rfl⟩
      · intro h1 h2
        simp [depsOk, Region.binds] at h1 h2
        subst h1
        (repeat (obtain ⟨rfl, h2⟩ := h2))
        (try subst h2)
        (first | (obtain rfl : l6 = false := by grind only) | skip)
        (first | (obtain rfl : l9 = false := by grind only) | skip)
        (first | (obtain rfl : l12 = false := by grind only) | skip)
        clear hcl
        simp only [cond_true, cond_false, setT, List.set_cons_succ, List.set_cons_zero, List.getD_cons_succ, List.getD_cons_zero, List.set_cons_succ]
        (with_reducible apply AP.k_any); first | (refine AP.sm false rfl ?_ ?_; focus ((repeat' (with_reducible apply And.intro)) <;> (first | exact True.intro | exact rfl | omega | (simp; omega) | (simp; done) | assumption | exact .inl rfl | (refine .inr ?_; simp; try omega)))) | (refine AP.el rfl ?_ (by (first | (refine ⟨?_, ?_⟩; assumption; rfl) | exact ⟨mapAt (by (first | omega | (simp; omega) | (simp; done) | assumption)), rfl⟩ | exact ⟨rfl, rfl⟩)) ?_; focus ((repeat' (with_reducible apply And.intro)) <;> (first | exact True.intro | exact rfl | omega | (simp; omega) | (simp; done) | assumption | exact .inl rfl | (refine .inr ?_; simp; try omega)))) | fail "no step"
        all_goals (try simp only [nx, Nat.reduceAdd, Nat.reduceSub, BEq.rfl])
        refine AP.nil ?_
        exact ⟨rfl, rfl⟩
      · intro h1 h2
        simp [depsOk, Region.binds] at h1 h2
        subst h1
        (repeat (obtain ⟨rfl, h2⟩ := h2))
        (try subst h2)
        (first | (obtain rfl : l3 = true := by grind only) | skip)
        (first | (obtain rfl : l9 = false := by grind only) | skip)
        (first | (obtain rfl : l12 = false := by grind only) | skip)
        clear hcl
        simp only [cond_true, cond_false, setT, List.set_cons_succ, List.set_cons_zero, List.getD_cons_succ, List.getD_cons_zero, List.set_cons_succ]
        (first
        | ((with_reducible apply AP.k_any); refine AP.CB [(0, 0)] 0 (wint_ac st e.stamp hst) ?_)
        | ((with_reducible apply AP.k_any); refine AP.CB [(0, 0)] 0 (wint_ac _ e.client h1) ?_)
        | ((with_reducible apply AP.k_any); refine AP.CB [(0, 0)] 0 (wint_ac _ e.id h2) ?_)
        | ((with_reducible apply AP.k_any); refine AP.CB [(0, 0)] 0 (wbytes_ac _ e.body h3 hb) ?_)
        | fail "no arm")
        all_goals (try simp only [nx, Nat.reduceAdd, Nat.reduceSub, BEq.rfl])
        refine AP.nil ?_
        exact ⟨rfl, rfl⟩
      · intro h1 h2
        simp [depsOk, Region.binds] at h1 h2
        subst h1
        (repeat (obtain ⟨rfl, h2⟩ := h2))
        (try subst h2)
        clear hcl
        simp only [cond_true, cond_false, setT, List.set_cons_succ, List.set_cons_zero, List.getD_cons_succ, List.getD_cons_zero, List.set_cons_succ]
        (with_reducible apply AP.k_any); first | (refine AP.sm false rfl ?_ ?_; focus ((repeat' (with_reducible apply And.intro)) <;> (first | exact True.intro | exact rfl | omega | (simp; omega) | (simp; done) | assumption | exact .inl rfl | (refine .inr ?_; simp; try omega)))) | fail "no step"
        all_goals (try simp only [nx, Nat.reduceAdd, Nat.reduceSub, BEq.rfl])
        refine AP.nil ?_
        exact ⟨rfl, rfl⟩
      · intro h1 h2
        simp [depsOk, Region.binds] at h1 h2
        subst h1
        (repeat (obtain ⟨rfl, h2⟩ := h2))
        (try subst h2)
        (first | (obtain rfl : l9 = false := by grind only) | skip)
        (first | (obtain rfl : l12 = false := by grind only) | skip)
        clear hcl
        simp only [cond_true, cond_false, setT, List.set_cons_succ, List.set_cons_zero, List.getD_cons_succ, List.getD_cons_zero, List.set_cons_succ]
        (with_reducible apply AP.k_any); first | (refine AP.sm false rfl ?_ ?_; focus ((repeat' (with_reducible apply And.intro)) <;> (first | exact True.intro | exact rfl | omega | (simp; omega) | (simp; done) | assumption | exact .inl rfl | (refine .inr ?_; simp; try omega)))) | (refine AP.el rfl ?_ (by (first | (refine ⟨?_, ?_⟩; assumption; rfl) | exact ⟨mapAt (by (first | omega | (simp; omega) | (simp; done) | assumption)), rfl⟩ | exact ⟨rfl, rfl⟩)) ?_; focus ((repeat' (with_reducible apply And.intro)) <;> (first | exact True.intro | exact rfl | omega | (simp; omega) | (simp; done) | assumption | exact .inl rfl | (refine .inr ?_; simp; try omega)))) | fail "no step"
        all_goals (try simp only [nx, Nat.reduceAdd, Nat.reduceSub, BEq.rfl])
        refine AP.nil ?_
        exact ⟨rfl, rfl⟩
      · intro h1 h2
        simp [depsOk, Region.binds] at h1 h2
        subst h1
        (repeat (obtain ⟨rfl, h2⟩ := h2))
        (try subst h2)
        (first | (obtain rfl : l3 = true := by grind only) | skip)
        (first | (obtain rfl : l6 = true := by grind only) | skip)
        (first | (obtain rfl : l12 = false := by grind only) | skip)
        clear hcl
        simp only [cond_true, cond_false, setT, List.set_cons_succ, List.set_cons_zero, List.getD_cons_succ, List.getD_cons_zero, List.set_cons_succ]
        (first
        | ((with_reducible apply AP.k_any); refine AP.CB [(0, 0)] 0 (wint_ac st e.stamp hst) ?_)
        | ((with_reducible apply AP.k_any); refine AP.CB [(0, 0)] 0 (wint_ac _ e.client h1) ?_)
        | ((with_reducible apply AP.k_any); refine AP.CB [(0, 0)] 0 (wint_ac _ e.id h2) ?_)
        | ((with_reducible apply AP.k_any); refine AP.CB [(0, 0)] 0 (wbytes_ac _ e.body h3 hb) ?_)
        | fail "no arm")
        all_goals (try simp only [nx, Nat.reduceAdd, Nat.reduceSub, BEq.rfl])
        refine AP.nil ?_
        exact ⟨rfl, rfl⟩
      · intro h1 h2
        simp [depsOk, Region.binds] at h1 h2
        subst h1
        (repeat (obtain ⟨rfl, h2⟩ := h2))
        (try subst h2)
        clear hcl
        simp only [cond_true, cond_false, setT, List.set_cons_succ, List.set_cons_zero, List.getD_cons_succ, List.getD_cons_zero, List.set_cons_succ]
        (with_reducible apply AP.k_any); first | (refine AP.sm false rfl ?_ ?_; focus ((repeat' (with_reducible apply And.intro)) <;> (first | exact True.intro | exact rfl | omega | (simp; omega) | (simp; done) | assumption | exact .inl rfl | (refine .inr ?_; simp; try omega)))) | fail "no step"
        all_goals (try simp only [nx, Nat.reduceAdd, Nat.reduceSub, BEq.rfl])
        refine AP.nil ?_
        exact ⟨rfl, rfl⟩
      · intro h1 h2
        simp [depsOk, Region.binds] at h1 h2
        subst h1
        (repeat (obtain ⟨rfl, h2⟩ := h2))
        (try subst h2)
        (first | (obtain rfl : l12 = false := by grind only) | skip)
        clear hcl
        simp only [cond_true, cond_false, setT, List.set_cons_succ, List.set_cons_zero, List.getD_cons_succ, List.getD_cons_zero, List.set_cons_succ]
        (with_reducible apply AP.k_any); first | (refine AP.sm false rfl ?_ ?_; focus ((repeat' (with_reducible apply And.intro)) <;> (first | exact True.intro | exact rfl | omega | (simp; omega) | (simp; done) | assumption | exact .inl rfl | (refine .inr ?_; simp; try omega)))) | (refine AP.el rfl ?_ (by (first | (refine ⟨?_, ?_⟩; assumption; rfl) | exact ⟨mapAt (by (first | omega | (simp; omega) | (simp; done) | assumption)), rfl⟩ | exact ⟨rfl, rfl⟩)) ?_; focus ((repeat' (with_reducible apply And.intro)) <;> (first | exact True.intro | exact rfl | omega | (simp; omega) | (simp; done) | assumption | exact .inl rfl | (refine .inr ?_; simp; try omega)))) | fail "no step"
        all_goals (try simp only [nx, Nat.reduceAdd, Nat.reduceSub, BEq.rfl])
        refine AP.nil ?_
        exact ⟨rfl, rfl⟩
      · intro h1 h2
        simp [depsOk, Region.binds] at h1 h2
        subst h1
        (repeat (obtain ⟨rfl, h2⟩ := h2))
        (try subst h2)
        (first | (obtain rfl : l3 = true := by grind only) | skip)
        (first | (obtain rfl : l6 = true := by grind only) | skip)
        (first | (obtain rfl : l9 = true := by grind only) | skip)
        clear hcl
        simp only [cond_true, cond_false, setT, List.set_cons_succ, List.set_cons_zero, List.getD_cons_succ, List.getD_cons_zero, List.set_cons_succ]
        (first
        | ((with_reducible apply AP.k_any); refine AP.CB [(0, 0)] 0 (wint_ac st e.stamp hst) ?_)
        | ((with_reducible apply AP.k_any); refine AP.CB [(0, 0)] 0 (wint_ac _ e.client h1) ?_)
        | ((with_reducible apply AP.k_any); refine AP.CB [(0, 0)] 0 (wint_ac _ e.id h2) ?_)
        | ((with_reducible apply AP.k_any); refine AP.CB [(0, 0)] 0 (wbytes_ac _ e.body h3 hb) ?_)
        | fail "no arm")
        all_goals (try simp only [nx, Nat.reduceAdd, Nat.reduceSub, BEq.rfl])
        refine AP.nil ?_
        exact ⟨rfl, rfl⟩
      · intro h1 h2
        simp [depsOk, Region.binds] at h1 h2
        subst h1
        (repeat (obtain ⟨rfl, h2⟩ := h2))
        (try subst h2)
        clear hcl
        simp only [cond_true, cond_false, setT, List.set_cons_succ, List.set_cons_zero, List.getD_cons_succ, List.getD_cons_zero, List.set_cons_succ]
        (with_reducible apply AP.k_any); first | (refine AP.sm false rfl ?_ ?_; focus ((repeat' (with_reducible apply And.intro)) <;> (first | exact True.intro | exact rfl | omega | (simp; omega) | (simp; done) | assumption | exact .inl rfl | (refine .inr ?_; simp; try omega)))) | fail "no step"
        all_goals (try simp only [nx, Nat.reduceAdd, Nat.reduceSub, BEq.rfl])
        refine AP.nil ?_
        exact ⟨rfl, rfl⟩
  repeat' (first
    | ((first
    | ((with_reducible apply AP.k_any); first
             | refine AP.S ?_
      )
    
    )
      <;> (try simp only [nx, Nat.reduceAdd, Nat.reduceSub, BEq.rfl]))
    | ((with_reducible apply AP.k_nil); first
        | (refine AP.nil (hQ' _ ?_); clear hQ' Q')
        | refine AP.nil ?_)
    | ((with_reducible apply CP.k_reg); refine cp_regG fun Q' hQ' => ?_)
      | (with_reducible apply CP.k_reg1; refine cp_region ?_)
      | ((with_reducible apply CP.k_cond); first | refine cp_condT rfl ?_ | refine cp_condF rfl ?_ | refine cp_cond rfl (fun hc => ?_) (fun hc => ?_))
      | refine CP.go ?_
      | (simp only [List.append_eq, List.cons_append, List.nil_append]))
  (exact RetQ.A [(0, 0)] (by exact ⟨rfl, rfl⟩))
theorem putEntry_ac (st : Bool × List UInt8) (e : Entry) (hst : st.2.length ≤ 65536) (hb : e.body.length ≤ 100000000) :
    AC Try.prog 10 [.bp 0 0 0, .ag (eE none e)] [wB st] (fun v bs => v = .bp 0 0 0 ∧ bs = [wB (putE st e)]) := by
  have h1 := addS_len (st := st) (b := intS e.pos) hst
  refine AC.N Try.func10 Try.ntmps10 ?_
  intro X
  simp only [nx, Nat.reduceAdd, Nat.reduceSub, BEq.rfl]
  repeat' (first
    | ((first
    | ((with_reducible apply AP.k_any); first
             | refine AP.S ?_
      )
    
    )
      <;> (try simp only [nx, Nat.reduceAdd, Nat.reduceSub, BEq.rfl]))
    | ((with_reducible apply AP.k_nil); first
        | (refine AP.nil (hQ' _ ?_); clear hQ' Q')
        | refine AP.nil ?_)
    | ((with_reducible apply CP.k_reg); refine cp_regG fun Q' hQ' => ?_)
      | (with_reducible apply CP.k_reg1; refine cp_region ?_)
      | ((with_reducible apply CP.k_cond); first | refine cp_condT rfl ?_ | refine cp_condF rfl ?_ | refine cp_cond rfl (fun hc => ?_) (fun hc => ?_))
      | refine CP.go ?_
      | (simp only [List.append_eq, List.cons_append, List.nil_append]))
  refine cp_drawI (fun zs zb => ⟨setT zs.t [(5, cond (zb.getD 0 false) (.bp 0 0 0) (.tu [])), (6, cond (zb.getD 1 false) (.bp 2 1 0) (.tu [])), (7, cond (zb.getD 2 false) (I e.pos) (.tu [])), (8, cond (zb.getD 3 false) (.bp 0 0 0) (.tu [])), (9, cond (zb.getD 4 false) (.ag (eE none e)) (.tu [])), (10, cond (zb.getD 5 false) (.bp 0 0 0) (.tu [])), (4, cond (zb.getD 6 false) (.bp 0 0 0) (.sc (.pointer none)))], ((zs.b.set 0 (cond (zb.getD 5 false) (⟨0, .c tW [B true, B (putE st e).1, .hd 1 3]⟩) (cond (zb.getD 3 false) (⟨0, .c tW [B true, B (addS st (intS e.pos)).1, .hd 1 2]⟩) (zs.b.getD 0 ⟨0, .x⟩)))).set 1 (cond (zb.getD 5 false) (⟨3, .r tU 1 ((putE st e).2.map eB)⟩) (cond (zb.getD 3 false) (⟨2, .r tU 1 ((addS st (intS e.pos)).2.map eB)⟩) (zs.b.getD 1 ⟨0, .x⟩))))⟩) (by kernel_rfl) (by kernel_rfl) (by kernel_rfl) ?_ ?_
  rotate_left
  simp only [cond_true, cond_false, setT, List.set_cons_succ, List.set_cons_zero, List.getD_cons_succ, List.getD_cons_zero, List.set_cons_succ, List.length_cons, List.length_nil, List.replicate_succ, List.replicate_zero, Nat.reduceAdd]
  rotate_left
  · intro b hb' hcl
    obtain ⟨l0, b0, rfl, hb0⟩ := len_cons hb'
    obtain ⟨l1, b1, rfl, hb1⟩ := len_cons hb0
    obtain ⟨l2, b2, rfl, hb2⟩ := len_cons hb1
    obtain ⟨l3, b3, rfl, hb3⟩ := len_cons hb2
    obtain ⟨l4, b4, rfl, hb4⟩ := len_cons hb3
    obtain ⟨l5, b5, rfl, hb5⟩ := len_cons hb4
    obtain ⟨l6, b6, rfl, hb6⟩ := len_cons hb5
    obtain rfl := List.length_eq_zero_iff.1 hb6
    clear hb' hb0 hb1 hb2 hb3 hb4 hb5 hb6
    · simp only [closedB, depsOk, Region.binds, List.toList_toArray, List.all_cons, List.all_nil, List.getD_cons_succ, List.getD_cons_zero, Bool.not_true, Bool.not_false, Bool.true_or, Bool.false_or, Bool.and_true, Bool.true_and, Bool.or_true, Bool.and_false, Bool.or_false, Bool.false_and, Bool.and_eq_true, Bool.or_eq_true, Bool.not_eq_true'] at hcl
      simp only [StepsP]
      refine ⟨?_, ?_, ?_, ?_, ?_, ?_, ?_, trivial⟩
      · intro h1 h2
        simp [depsOk, Region.binds] at h1 h2
        subst h1
        (repeat (obtain ⟨rfl, h2⟩ := h2))
        (try subst h2)
        clear hcl
        simp only [cond_true, cond_false, setT, List.set_cons_succ, List.set_cons_zero, List.getD_cons_succ, List.getD_cons_zero, List.set_cons_succ]
        (with_reducible apply AP.k_any); first | (refine AP.sm false rfl ?_ ?_; focus ((repeat' (with_reducible apply And.intro)) <;> (first | exact True.intro | exact rfl | omega | (simp; omega) | (simp; done) | assumption | exact .inl rfl | (refine .inr ?_; simp; try omega)))) | fail "no step"
        all_goals (try simp only [nx, Nat.reduceAdd, Nat.reduceSub, BEq.rfl])
        refine AP.nil ?_
        exact ⟨rfl, rfl⟩
      · intro h1 h2
        simp [depsOk, Region.binds] at h1 h2
        subst h1
        (repeat (obtain ⟨rfl, h2⟩ := h2))
        (try subst h2)
        clear hcl
        simp only [cond_true, cond_false, setT, List.set_cons_succ, List.set_cons_zero, List.getD_cons_succ, List.getD_cons_zero, List.set_cons_succ]
        (with_reducible apply AP.k_any); first | (refine AP.sm false rfl ?_ ?_; focus ((repeat' (with_reducible apply And.intro)) <;> (first | exact True.intro | exact rfl | omega | (simp; omega) | (simp; done) | assumption | exact .inl rfl | (refine .inr ?_; simp; try omega)))) | fail "no step"
        all_goals (try simp only [nx, Nat.reduceAdd, Nat.reduceSub, BEq.rfl])
        refine AP.nil ?_
        exact ⟨rfl, rfl⟩
      · intro h1 h2
        simp [depsOk, Region.binds] at h1 h2
        subst h1
        (repeat (obtain ⟨rfl, h2⟩ := h2))
        (try subst h2)
        (first | (obtain rfl : l3 = false := by grind only) | skip)
        (first | (obtain rfl : l5 = false := by grind only) | skip)
        clear hcl
        simp only [cond_true, cond_false, setT, List.set_cons_succ, List.set_cons_zero, List.getD_cons_succ, List.getD_cons_zero, List.set_cons_succ]
        (with_reducible apply AP.k_any); first | (refine AP.sm false rfl ?_ ?_; focus ((repeat' (with_reducible apply And.intro)) <;> (first | exact True.intro | exact rfl | omega | (simp; omega) | (simp; done) | assumption | exact .inl rfl | (refine .inr ?_; simp; try omega)))) | (refine AP.el rfl ?_ (by (first | (refine ⟨?_, ?_⟩; assumption; rfl) | exact ⟨mapAt (by (first | omega | (simp; omega) | (simp; done) | assumption)), rfl⟩ | exact ⟨rfl, rfl⟩)) ?_; focus ((repeat' (with_reducible apply And.intro)) <;> (first | exact True.intro | exact rfl | omega | (simp; omega) | (simp; done) | assumption | exact .inl rfl | (refine .inr ?_; simp; try omega)))) | fail "no step"
        all_goals (try simp only [nx, Nat.reduceAdd, Nat.reduceSub, BEq.rfl])
        refine AP.nil ?_
        exact ⟨rfl, rfl⟩
      · intro h1 h2
        simp [depsOk, Region.binds] at h1 h2
        subst h1
        (repeat (obtain ⟨rfl, h2⟩ := h2))
        (try subst h2)
        (first | (obtain rfl : l5 = false := by grind only) | skip)
        clear hcl
        simp only [cond_true, cond_false, setT, List.set_cons_succ, List.set_cons_zero, List.getD_cons_succ, List.getD_cons_zero, List.set_cons_succ]
        (first
        | ((with_reducible apply AP.k_any); refine AP.CB [(0, 0)] 0 (wint_ac st e.pos hst) ?_)
        | ((with_reducible apply AP.k_any); refine AP.CB [(0, 0)] 0 (putRest_ac _ e h1 hb) ?_)
        | fail "no arm")
        all_goals (try simp only [nx, Nat.reduceAdd, Nat.reduceSub, BEq.rfl])
        refine AP.nil ?_
        exact ⟨rfl, rfl⟩
      · intro h1 h2
        simp [depsOk, Region.binds] at h1 h2
        subst h1
        (repeat (obtain ⟨rfl, h2⟩ := h2))
        (try subst h2)
        (first | (obtain rfl : l5 = false := by grind only) | skip)
        clear hcl
        simp only [cond_true, cond_false, setT, List.set_cons_succ, List.set_cons_zero, List.getD_cons_succ, List.getD_cons_zero, List.set_cons_succ]
        (with_reducible apply AP.k_any); first | (refine AP.sm false rfl ?_ ?_; focus ((repeat' (with_reducible apply And.intro)) <;> (first | exact True.intro | exact rfl | omega | (simp; omega) | (simp; done) | assumption | exact .inl rfl | (refine .inr ?_; simp; try omega)))) | (refine AP.el rfl ?_ (by (first | (refine ⟨?_, ?_⟩; assumption; rfl) | exact ⟨mapAt (by (first | omega | (simp; omega) | (simp; done) | assumption)), rfl⟩ | exact ⟨rfl, rfl⟩)) ?_; focus ((repeat' (with_reducible apply And.intro)) <;> (first | exact True.intro | exact rfl | omega | (simp; omega) | (simp; done) | assumption | exact .inl rfl | (refine .inr ?_; simp; try omega)))) | fail "no step"
        all_goals (try simp only [nx, Nat.reduceAdd, Nat.reduceSub, BEq.rfl])
        refine AP.nil ?_
        exact ⟨rfl, rfl⟩
      · intro h1 h2
        simp [depsOk, Region.binds] at h1 h2
        subst h1
        (repeat (obtain ⟨rfl, h2⟩ := h2))
        (try subst h2)
        (first | (obtain rfl : l3 = true := by grind only) | skip)
        clear hcl
        simp only [cond_true, cond_false, setT, List.set_cons_succ, List.set_cons_zero, List.getD_cons_succ, List.getD_cons_zero, List.set_cons_succ]
        (first
        | ((with_reducible apply AP.k_any); refine AP.CB [(0, 0)] 0 (wint_ac st e.pos hst) ?_)
        | ((with_reducible apply AP.k_any); refine AP.CB [(0, 0)] 0 (putRest_ac _ e h1 hb) ?_)
        | fail "no arm")
        all_goals (try simp only [nx, Nat.reduceAdd, Nat.reduceSub, BEq.rfl])
        refine AP.nil ?_
        exact ⟨rfl, rfl⟩
      · intro h1 h2
        simp [depsOk, Region.binds] at h1 h2
        subst h1
        (repeat (obtain ⟨rfl, h2⟩ := h2))
        (try subst h2)
        clear hcl
        simp only [cond_true, cond_false, setT, List.set_cons_succ, List.set_cons_zero, List.getD_cons_succ, List.getD_cons_zero, List.set_cons_succ]
        (with_reducible apply AP.k_any); first | (refine AP.sm false rfl ?_ ?_; focus ((repeat' (with_reducible apply And.intro)) <;> (first | exact True.intro | exact rfl | omega | (simp; omega) | (simp; done) | assumption | exact .inl rfl | (refine .inr ?_; simp; try omega)))) | fail "no step"
        all_goals (try simp only [nx, Nat.reduceAdd, Nat.reduceSub, BEq.rfl])
        refine AP.nil ?_
        exact ⟨rfl, rfl⟩
  repeat' (first
    | ((first
    | ((with_reducible apply AP.k_any); first
             | refine AP.S ?_
      )
    
    )
      <;> (try simp only [nx, Nat.reduceAdd, Nat.reduceSub, BEq.rfl]))
    | ((with_reducible apply AP.k_nil); first
        | (refine AP.nil (hQ' _ ?_); clear hQ' Q')
        | refine AP.nil ?_)
    | ((with_reducible apply CP.k_reg); refine cp_regG fun Q' hQ' => ?_)
      | (with_reducible apply CP.k_reg1; refine cp_region ?_)
      | ((with_reducible apply CP.k_cond); first | refine cp_condT rfl ?_ | refine cp_condF rfl ?_ | refine cp_cond rfl (fun hc => ?_) (fun hc => ?_))
      | refine CP.go ?_
      | (simp only [List.append_eq, List.cons_append, List.nil_append]))
  (exact RetQ.A [(0, 0)] (by exact ⟨rfl, rfl⟩))
end Go.Proofs.Ytpdegeknhapgmaa

namespace Go.Proofs.Ytpdegeknhapgmaa
set_option linter.unusedVariables false
set_option linter.unusedSimpArgs false
set_option maxHeartbeats 8000000
open Go.RowKit
set_option maxRecDepth 100000
abbrev tMsg : TypeId := 43
structure Msg where
  kind : UInt8
  client : Int
  id : Int
  body : List UInt8
  upto : Int
  frm : Int
  entries : List Entry
  have_ : Int
  done : Int
  cfg : Config
  since : Int
abbrev eG (m : Msg) : List AV := [U m.kind, I m.client, I m.id, bs none m.body, I m.upto, I m.frm, es none none m.entries, I m.have_, I m.done, I m.cfg.epoch, ms none m.cfg.members, I m.since]
abbrev fnv (f : Nat) : AV := .sc (.func (.func f) #[] #[])
def Msg.small (m : Msg) : Prop := m.body.length ≤ 100000000 ∧ m.entries.length ≤ 100000000 ∧ m.cfg.members.length ≤ 100000000 ∧ ∀ e ∈ m.entries, e.body.length ≤ 100000000
def cfg0 : Config := ⟨0, []⟩
def msg0 : Msg := ⟨0, 0, 0, [], 0, 0, [], 0, 0, cfg0, 0⟩
/-! of each kind: whether it may be; without its fields -/
def mayAsk (m : Msg) : Bool := clientS m.client m.id && decide (m.body.length ≤ 20000)
def mayHave (m : Msg) : Bool := decide (0 ≤ m.done) && decide (m.done ≤ m.have_)
def mayWhole (m : Msg) : Bool := decide (1 ≤ m.since)
def bareAsk (m : Msg) : Msg := { m with client := 0, id := 0, body := [] }
def bareHave (m : Msg) : Msg := { m with have_ := 0, done := 0 }
def bareCfg (m : Msg) : Msg := { m with cfg := cfg0 }
def bareWhole (m : Msg) : Msg := { m with since := 0 }
def bareEnt (m : Msg) : Msg := { m with upto := 0, frm := 0, entries := [] }
theorem kmay1_ac (m : Msg) : AC Try.prog 93 [.ag (eG m)] [] (fun v bs => v = B (mayAsk m) ∧ bs = []) := by
  refine AC.N Try.func93 Try.ntmps93 ?_
  intro X
  simp only [nx, Nat.reduceAdd, Nat.reduceSub, BEq.rfl]
  repeat' (first
    | ((first
    | ((with_reducible apply AP.k_any); first
             | refine AP.S ?_
             | (refine AP.Y ?_; dsimp only) | refine AP.G (fun hg => ?_) (fun hg => ?_)
      )
    | ((with_reducible apply AP.k_any); refine AP.C (client_ac _ _) ?_)
    )
      <;> (try simp only [nx, Nat.reduceAdd, Nat.reduceSub, BEq.rfl]))
    | ((with_reducible apply AP.k_nil); first
        | (refine AP.nil (hQ' _ ?_); clear hQ' Q')
        | refine AP.nil ?_)
    | ((with_reducible apply CP.k_reg); refine cp_regG fun Q' hQ' => ?_)
      | (with_reducible apply CP.k_reg1; refine cp_region ?_)
      | ((with_reducible apply CP.k_cond); first | refine cp_condT rfl ?_ | refine cp_condF rfl ?_ | refine cp_cond rfl (fun hc => ?_) (fun hc => ?_))
      | refine CP.go ?_
      | (simp only [List.append_eq, List.cons_append, List.nil_append]))
  all_goals (refine RetQ.B [] ?_; (try dsimp only [resV, List.getD_cons_succ, List.getD_cons_zero]); ((refine ⟨?_, rfl⟩; simp at *; simp [mayAsk, *]; try omega)))
theorem kmay5_ac (m : Msg) : AC Try.prog 98 [.ag (eG m)] [] (fun v bs => v = B (mayHave m) ∧ bs = []) := by
  refine AC.N Try.func98 Try.ntmps98 ?_
  intro X
  simp only [nx, Nat.reduceAdd, Nat.reduceSub, BEq.rfl]
  repeat' (first
    | ((first
    | ((with_reducible apply AP.k_any); first
             | refine AP.S ?_
             | (refine AP.Y ?_; dsimp only) | refine AP.G (fun hg => ?_) (fun hg => ?_)
      )
    
    )
      <;> (try simp only [nx, Nat.reduceAdd, Nat.reduceSub, BEq.rfl]))
    | ((with_reducible apply AP.k_nil); first
        | (refine AP.nil (hQ' _ ?_); clear hQ' Q')
        | refine AP.nil ?_)
    | ((with_reducible apply CP.k_reg); refine cp_regG fun Q' hQ' => ?_)
      | (with_reducible apply CP.k_reg1; refine cp_region ?_)
      | ((with_reducible apply CP.k_cond); first | refine cp_condT rfl ?_ | refine cp_condF rfl ?_ | refine cp_cond rfl (fun hc => ?_) (fun hc => ?_))
      | refine CP.go ?_
      | (simp only [List.append_eq, List.cons_append, List.nil_append]))
  all_goals (refine RetQ.B [] ?_; (try dsimp only [resV, List.getD_cons_succ, List.getD_cons_zero]); ((refine ⟨?_, rfl⟩; simp at *; simp [mayHave, *]; try omega)))
theorem kmay9_ac (m : Msg) (hl : m.cfg.members.length ≤ 100000000) : AC Try.prog 102 [.ag (eG m)] [] (fun v bs => v = B (mayCfg m.cfg) ∧ bs = []) := by
  refine AC.N Try.func102 Try.ntmps102 ?_
  intro X
  simp only [nx, Nat.reduceAdd, Nat.reduceSub, BEq.rfl]
  repeat' (first
    | ((first
    | ((with_reducible apply AP.k_any); first
             | refine AP.S ?_
      )
    | ((with_reducible apply AP.k_any); refine AP.C (mayConfig_ac m.cfg hl) ?_)
    )
      <;> (try simp only [nx, Nat.reduceAdd, Nat.reduceSub, BEq.rfl]))
    | ((with_reducible apply AP.k_nil); first
        | (refine AP.nil (hQ' _ ?_); clear hQ' Q')
        | refine AP.nil ?_)
    | ((with_reducible apply CP.k_reg); refine cp_regG fun Q' hQ' => ?_)
      | (with_reducible apply CP.k_reg1; refine cp_region ?_)
      | ((with_reducible apply CP.k_cond); first | refine cp_condT rfl ?_ | refine cp_condF rfl ?_ | refine cp_cond rfl (fun hc => ?_) (fun hc => ?_))
      | refine CP.go ?_
      | (simp only [List.append_eq, List.cons_append, List.nil_append]))
  all_goals (refine RetQ.B [] ?_; (try dsimp only [resV, List.getD_cons_succ, List.getD_cons_zero]); (exact ⟨rfl, rfl⟩))
theorem kmay13_ac (m : Msg) : AC Try.prog 106 [.ag (eG m)] [] (fun v bs => v = B (mayWhole m) ∧ bs = []) := by
  refine AC.N Try.func106 Try.ntmps106 ?_
  intro X
  simp only [nx, Nat.reduceAdd, Nat.reduceSub, BEq.rfl]
  repeat' (first
    | ((first
    | ((with_reducible apply AP.k_any); first
             | refine AP.S ?_
      )
    
    )
      <;> (try simp only [nx, Nat.reduceAdd, Nat.reduceSub, BEq.rfl]))
    | ((with_reducible apply AP.k_nil); first
        | (refine AP.nil (hQ' _ ?_); clear hQ' Q')
        | refine AP.nil ?_)
    | ((with_reducible apply CP.k_reg); refine cp_regG fun Q' hQ' => ?_)
      | (with_reducible apply CP.k_reg1; refine cp_region ?_)
      | ((with_reducible apply CP.k_cond); first | refine cp_condT rfl ?_ | refine cp_condF rfl ?_ | refine cp_cond rfl (fun hc => ?_) (fun hc => ?_))
      | refine CP.go ?_
      | (simp only [List.append_eq, List.cons_append, List.nil_append]))
  all_goals (refine RetQ.B [] ?_; (try dsimp only [resV, List.getD_cons_succ, List.getD_cons_zero]); ((refine ⟨?_, rfl⟩; simp at *; simp [mayWhole, *]; try omega)))
theorem kbare2_ac (m : Msg) : AC Try.prog 94 [.ag (eG m)] [] (fun v bs => v = .ag (eG (bareAsk m)) ∧ bs = []) := by
  refine AC.N Try.func94 Try.ntmps94 ?_
  intro X
  simp only [nx, Nat.reduceAdd, Nat.reduceSub, BEq.rfl]
  repeat' (first
    | ((first
    | ((with_reducible apply AP.k_any); first
             | refine AP.S ?_
      )
    
    )
      <;> (try simp only [nx, Nat.reduceAdd, Nat.reduceSub, BEq.rfl]))
    | ((with_reducible apply AP.k_nil); first
        | (refine AP.nil (hQ' _ ?_); clear hQ' Q')
        | refine AP.nil ?_)
    | ((with_reducible apply CP.k_reg); refine cp_regG fun Q' hQ' => ?_)
      | (with_reducible apply CP.k_reg1; refine cp_region ?_)
      | ((with_reducible apply CP.k_cond); first | refine cp_condT rfl ?_ | refine cp_condF rfl ?_ | refine cp_cond rfl (fun hc => ?_) (fun hc => ?_))
      | refine CP.go ?_
      | (simp only [List.append_eq, List.cons_append, List.nil_append]))
  (exact RetQ.A [] (by exact ⟨rfl, rfl⟩))
theorem kbare6_ac (m : Msg) : AC Try.prog 99 [.ag (eG m)] [] (fun v bs => v = .ag (eG (bareHave m)) ∧ bs = []) := by
  refine AC.N Try.func99 Try.ntmps99 ?_
  intro X
  simp only [nx, Nat.reduceAdd, Nat.reduceSub, BEq.rfl]
  repeat' (first
    | ((first
    | ((with_reducible apply AP.k_any); first
             | refine AP.S ?_
      )
    
    )
      <;> (try simp only [nx, Nat.reduceAdd, Nat.reduceSub, BEq.rfl]))
    | ((with_reducible apply AP.k_nil); first
        | (refine AP.nil (hQ' _ ?_); clear hQ' Q')
        | refine AP.nil ?_)
    | ((with_reducible apply CP.k_reg); refine cp_regG fun Q' hQ' => ?_)
      | (with_reducible apply CP.k_reg1; refine cp_region ?_)
      | ((with_reducible apply CP.k_cond); first | refine cp_condT rfl ?_ | refine cp_condF rfl ?_ | refine cp_cond rfl (fun hc => ?_) (fun hc => ?_))
      | refine CP.go ?_
      | (simp only [List.append_eq, List.cons_append, List.nil_append]))
  (exact RetQ.A [] (by exact ⟨rfl, rfl⟩))
theorem kbare10_ac (m : Msg) : AC Try.prog 103 [.ag (eG m)] [] (fun v bs => v = .ag (eG (bareCfg m)) ∧ bs = []) := by
  refine AC.N Try.func103 Try.ntmps103 ?_
  intro X
  simp only [nx, Nat.reduceAdd, Nat.reduceSub, BEq.rfl]
  repeat' (first
    | ((first
    | ((with_reducible apply AP.k_any); first
             | refine AP.S ?_
      )
    
    )
      <;> (try simp only [nx, Nat.reduceAdd, Nat.reduceSub, BEq.rfl]))
    | ((with_reducible apply AP.k_nil); first
        | (refine AP.nil (hQ' _ ?_); clear hQ' Q')
        | refine AP.nil ?_)
    | ((with_reducible apply CP.k_reg); refine cp_regG fun Q' hQ' => ?_)
      | (with_reducible apply CP.k_reg1; refine cp_region ?_)
      | ((with_reducible apply CP.k_cond); first | refine cp_condT rfl ?_ | refine cp_condF rfl ?_ | refine cp_cond rfl (fun hc => ?_) (fun hc => ?_))
      | refine CP.go ?_
      | (simp only [List.append_eq, List.cons_append, List.nil_append]))
  (exact RetQ.A [] (by exact ⟨rfl, rfl⟩))
theorem kbare14_ac (m : Msg) : AC Try.prog 107 [.ag (eG m)] [] (fun v bs => v = .ag (eG (bareWhole m)) ∧ bs = []) := by
  refine AC.N Try.func107 Try.ntmps107 ?_
  intro X
  simp only [nx, Nat.reduceAdd, Nat.reduceSub, BEq.rfl]
  repeat' (first
    | ((first
    | ((with_reducible apply AP.k_any); first
             | refine AP.S ?_
      )
    
    )
      <;> (try simp only [nx, Nat.reduceAdd, Nat.reduceSub, BEq.rfl]))
    | ((with_reducible apply AP.k_nil); first
        | (refine AP.nil (hQ' _ ?_); clear hQ' Q')
        | refine AP.nil ?_)
    | ((with_reducible apply CP.k_reg); refine cp_regG fun Q' hQ' => ?_)
      | (with_reducible apply CP.k_reg1; refine cp_region ?_)
      | ((with_reducible apply CP.k_cond); first | refine cp_condT rfl ?_ | refine cp_condF rfl ?_ | refine cp_cond rfl (fun hc => ?_) (fun hc => ?_))
      | refine CP.go ?_
      | (simp only [List.append_eq, List.cons_append, List.nil_append]))
  (exact RetQ.A [] (by exact ⟨rfl, rfl⟩))
theorem ebare2_ac (m : Msg) : AC Try.prog 120 [.ag (eG m)] [] (fun v bs => v = .ag (eG (bareEnt m)) ∧ bs = []) := by
  refine AC.N Try.func120 Try.ntmps120 ?_
  intro X
  simp only [nx, Nat.reduceAdd, Nat.reduceSub, BEq.rfl]
  repeat' (first
    | ((first
    | ((with_reducible apply AP.k_any); first
             | refine AP.S ?_
      )
    
    )
      <;> (try simp only [nx, Nat.reduceAdd, Nat.reduceSub, BEq.rfl]))
    | ((with_reducible apply AP.k_nil); first
        | (refine AP.nil (hQ' _ ?_); clear hQ' Q')
        | refine AP.nil ?_)
    | ((with_reducible apply CP.k_reg); refine cp_regG fun Q' hQ' => ?_)
      | (with_reducible apply CP.k_reg1; refine cp_region ?_)
      | ((with_reducible apply CP.k_cond); first | refine cp_condT rfl ?_ | refine cp_condF rfl ?_ | refine cp_cond rfl (fun hc => ?_) (fun hc => ?_))
      | refine CP.go ?_
      | (simp only [List.append_eq, List.cons_append, List.nil_append]))
  (exact RetQ.A [] (by exact ⟨rfl, rfl⟩))
def noneM (m : Msg) : Bool := m.client == 0 && m.id == 0 && m.body.isEmpty && m.upto == 0 && m.frm == 0 && m.entries.isEmpty && m.have_ == 0 && m.done == 0 && m.cfg.epoch == 0 && m.cfg.members.isEmpty && m.since == 0
theorem none_ac (m : Msg) : AC Try.prog 55 [.ag (eG m)] [] (fun v bs => v = B (noneM m) ∧ bs = []) := by
  refine AC.N Try.func55 Try.ntmps55 ?_
  intro X
  simp only [nx, Nat.reduceAdd, Nat.reduceSub, BEq.rfl]
  repeat' (first
    | ((first
    | ((with_reducible apply AP.k_any); first
             | refine AP.S ?_
             | (refine AP.Y ?_; dsimp only) | refine AP.G (fun hg => ?_) (fun hg => ?_)
      )
    
    )
      <;> (try simp only [nx, Nat.reduceAdd, Nat.reduceSub, BEq.rfl]))
    | ((with_reducible apply AP.k_nil); first
        | (refine AP.nil (hQ' _ ?_); clear hQ' Q')
        | refine AP.nil ?_)
    | ((with_reducible apply CP.k_reg); refine cp_regG fun Q' hQ' => ?_)
      | (with_reducible apply CP.k_reg1; refine cp_region ?_)
      | ((with_reducible apply CP.k_cond); first | refine cp_condT rfl ?_ | refine cp_condF rfl ?_ | refine cp_cond rfl (fun hc => ?_) (fun hc => ?_))
      | refine CP.go ?_
      | (simp only [List.append_eq, List.cons_append, List.nil_append]))
  all_goals (refine RetQ.B [] ?_; (try dsimp only [resV, List.getD_cons_succ, List.getD_cons_zero]); ((refine ⟨?_, rfl⟩; simp at *; simp [noneM, *])))
/-! the table of kinds -/
abbrev kAsk : List AV := [fnv 93, fnv 94, fnv 95, fnv 96]
abbrev kHave : List AV := [fnv 98, fnv 99, fnv 100, fnv 101]
abbrev kCfg : List AV := [fnv 102, fnv 103, fnv 104, fnv 105]
abbrev kWhole : List AV := [fnv 106, fnv 107, fnv 108, fnv 109]
abbrev kEnt : List AV := [fnv 117, fnv 120, fnv 121, fnv 122]
abbrev kNo : List AV := [.sc .nilFunc, .sc .nilFunc, .sc .nilFunc, .sc .nilFunc]
theorem entries_ac : AC Try.prog 97 [] [] (fun v bs => v = .ag kEnt ∧ bs = []) := by
  refine AC.N Try.func97 Try.ntmps97 ?_
  intro X
  simp only [nx, Nat.reduceAdd, Nat.reduceSub, BEq.rfl]
  repeat' (first
    | ((first
    | ((with_reducible apply AP.k_any); first
             | refine AP.S ?_
      )
    
    )
      <;> (try simp only [nx, Nat.reduceAdd, Nat.reduceSub, BEq.rfl]))
    | ((with_reducible apply AP.k_nil); first
        | (refine AP.nil (hQ' _ ?_); clear hQ' Q')
        | refine AP.nil ?_)
    | ((with_reducible apply CP.k_reg); refine cp_regG fun Q' hQ' => ?_)
      | (with_reducible apply CP.k_reg1; refine cp_region ?_)
      | ((with_reducible apply CP.k_cond); first | refine cp_condT rfl ?_ | refine cp_condF rfl ?_ | refine cp_cond rfl (fun hc => ?_) (fun hc => ?_))
      | refine CP.go ?_
      | (simp only [List.append_eq, List.cons_append, List.nil_append]))
  (exact RetQ.A [] (by exact ⟨rfl, rfl⟩))
theorem kinds_ac : AC Try.prog 77 [] [] (fun v bs => v = .ag (kNo ++ (kAsk ++ (kEnt ++ (kHave ++ (kCfg ++ (kWhole ++ kAsk)))))) ∧ bs = []) := by
  refine AC.N Try.func77 Try.ntmps77 ?_
  intro X
  simp only [nx, Nat.reduceAdd, Nat.reduceSub, BEq.rfl]
  repeat' (first
    | ((first
    | ((with_reducible apply AP.k_any); first
             | refine AP.S ?_
      )
    | ((with_reducible apply AP.k_any); refine AP.C (entries_ac) ?_)
    | ((with_reducible apply DW.k_any); first
                | refine DW.R ?_ | refine DW.R' ?_ | refine DW.W ?_ | refine DW.W' ?_
                | (refine DW.known rfl ?_; (with_reducible first | apply DW.st 2 | apply DW.stN 2); (iterate 2 (focus (simp only [ft, nm, Nat.reduceAdd, Nat.reduceBEq, List.getElem?_cons_zero, List.getElem?_cons_succ]; exact rfl))); (focus (intro X V; simp only [ft, nm, Nat.reduceAdd, Nat.reduceBEq]; (try (refine AP.Y ?_; dsimp only)); (first | ((with_reducible apply AP.k_any); refine AP.C (entries_ac) ?_) | fail); (try simp only [nx, Nat.reduceAdd, Nat.reduceSub, BEq.rfl]); refine AP.nil ?_; (first | refine ⟨trivial, rfl, ?_⟩ | refine ⟨rfl, rfl, ?_⟩); (repeat' (first | exact Mg.nil | apply Mg.keep rfl | apply Mg.take rfl)); done)); (focus (refine Exists.intro (fun _ => 0) ?_; apply Exists.intro; (repeat' (first | exact Mg.nil | apply Mg.keep rfl | apply Mg.take rfl)); done)))
                | ((fail_if_success refine DW.known rfl ?_); refine DW.G (fun hg => ?_) (fun hg => ?_))
    )
    )
      <;> (try simp only [nx, Nat.reduceAdd, Nat.reduceSub, BEq.rfl]))
    | ((with_reducible apply AP.k_nil); first
        | (refine AP.nil (hQ' _ ?_); clear hQ' Q')
        | refine AP.nil ?_)
    | ((with_reducible apply CP.k_drw); refine cp_drwX fun Q' hQ' => ?_)
    | ((with_reducible apply CP.k_drw1); refine cp_drawX ?_)
    | ((with_reducible apply DW.k_nil); refine DW.nl ?_; first | (refine hQ' _ ?_; clear hQ' Q') | skip)
    | ((with_reducible apply CP.k_reg); refine cp_regG fun Q' hQ' => ?_)
      | (with_reducible apply CP.k_reg1; refine cp_region ?_)
      | ((with_reducible apply CP.k_cond); first | refine cp_condT rfl ?_ | refine cp_condF rfl ?_ | refine cp_cond rfl (fun hc => ?_) (fun hc => ?_))
      | refine CP.go ?_
      | (simp only [List.append_eq, List.cons_append, List.nil_append]))
  (exact RetQ.A [] (by exact ⟨rfl, rfl⟩))
end Go.Proofs.Ytpdegeknhapgmaa

namespace Go.Proofs.Ytpdegeknhapgmaa
set_option linter.unusedVariables false
set_option linter.unusedSimpArgs false
set_option maxHeartbeats 8000000
open Go.RowKit
set_option maxRecDepth 100000
theorem putM_len {st : Bool × List UInt8} {m : Member} (h : st.2.length ≤ 65536) : (putM st m).2.length ≤ 65536 := addS_len (addS_len (addS_len h))
theorem putConfig_ac (st : Bool × List UInt8) (c : Config) (hst : st.2.length ≤ 65536) (hl : c.members.length ≤ 100000000) :
    AC Try.prog 13 [.bp 0 0 0, .ag (eC none c)] [wB st] (fun v bs => v = .bp 0 0 0 ∧ bs = [wB (putC st c)]) := by
  have h1 := addS_len (st := st) (b := intS c.epoch) hst
  have h2 := addS_len (b := intS c.members.length) h1
  refine AC.N Try.func13 Try.ntmps13 ?_
  intro X
  simp only [nx, Nat.reduceAdd, Nat.reduceSub, BEq.rfl]
  repeat' (first
    | ((first
    | ((with_reducible apply AP.k_any); first
             | refine AP.S ?_
             | refine AP.E ?_
             | refine AP.T ?_
      )
    
    )
      <;> (try simp only [nx, Nat.reduceAdd, Nat.reduceSub, BEq.rfl]))
    | ((with_reducible apply AP.k_nil); first
        | (refine AP.nil (hQ' _ ?_); clear hQ' Q')
        | refine AP.nil ?_)
    | ((with_reducible apply CP.k_reg); refine cp_regG fun Q' hQ' => ?_)
      | (with_reducible apply CP.k_reg1; refine cp_region ?_)
      | ((with_reducible apply CP.k_cond); first | refine cp_condT rfl ?_ | refine cp_condF rfl ?_ | refine cp_cond rfl (fun hc => ?_) (fun hc => ?_))
      | refine CP.go ?_
      | (simp only [List.append_eq, List.cons_append, List.nil_append]))
  refine cp_drawI (fun zs zb => ⟨setT zs.t [(7, cond (zb.getD 0 false) (.bp 0 0 0) (.tu [])), (8, cond (zb.getD 1 false) (.bp 2 1 0) (.tu [])), (9, cond (zb.getD 2 false) (I c.epoch) (.tu [])), (10, cond (zb.getD 3 false) (.bp 0 0 0) (.tu [])), (11, cond (zb.getD 4 false) (.bp 2 1 1) (.tu [])), (12, cond (zb.getD 5 false) (ms none c.members) (.tu [])), (13, cond (zb.getD 6 false) (I c.members.length) (.tu [])), (14, cond (zb.getD 7 false) (.bp 0 0 0) (.tu []))], ((zs.b.set 0 (cond (zb.getD 7 false) (⟨0, .c tW [B true, B (addS (addS st (intS c.epoch)) (intS c.members.length)).1, .hd 1 3]⟩) (cond (zb.getD 3 false) (⟨0, .c tW [B true, B (addS st (intS c.epoch)).1, .hd 1 2]⟩) (zs.b.getD 0 ⟨0, .x⟩)))).set 1 (cond (zb.getD 7 false) (⟨3, .r tU 1 ((addS (addS st (intS c.epoch)) (intS c.members.length)).2.map eB)⟩) (cond (zb.getD 3 false) (⟨2, .r tU 1 ((addS st (intS c.epoch)).2.map eB)⟩) (zs.b.getD 1 ⟨0, .x⟩))))⟩) (by kernel_rfl) (by kernel_rfl) (by kernel_rfl) ?_ ?_
  rotate_left
  simp only [cond_true, cond_false, setT, List.set_cons_succ, List.set_cons_zero, List.getD_cons_succ, List.getD_cons_zero, List.set_cons_succ, List.length_cons, List.length_nil, List.replicate_succ, List.replicate_zero, Nat.reduceAdd]
  rotate_left
  · intro b hb' hcl
    obtain ⟨l0, b0, rfl, hb0⟩ := len_cons hb'
    obtain ⟨l1, b1, rfl, hb1⟩ := len_cons hb0
    obtain ⟨l2, b2, rfl, hb2⟩ := len_cons hb1
    obtain ⟨l3, b3, rfl, hb3⟩ := len_cons hb2
    obtain ⟨l4, b4, rfl, hb4⟩ := len_cons hb3
    obtain ⟨l5, b5, rfl, hb5⟩ := len_cons hb4
    obtain ⟨l6, b6, rfl, hb6⟩ := len_cons hb5
    obtain ⟨l7, b7, rfl, hb7⟩ := len_cons hb6
    obtain rfl := List.length_eq_zero_iff.1 hb7
    clear hb' hb0 hb1 hb2 hb3 hb4 hb5 hb6 hb7
    · simp only [closedB, depsOk, Region.binds, List.toList_toArray, List.all_cons, List.all_nil, List.getD_cons_succ, List.getD_cons_zero, Bool.not_true, Bool.not_false, Bool.true_or, Bool.false_or, Bool.and_true, Bool.true_and, Bool.or_true, Bool.and_false, Bool.or_false, Bool.false_and, Bool.and_eq_true, Bool.or_eq_true, Bool.not_eq_true'] at hcl
      simp only [StepsP]
      refine ⟨?_, ?_, ?_, ?_, ?_, ?_, ?_, ?_, trivial⟩
      · intro h1 h2
        simp [depsOk, Region.binds] at h1 h2
        subst h1
        (repeat (obtain ⟨rfl, h2⟩ := h2))
        (try subst h2)
        clear hcl
        simp only [cond_true, cond_false, setT, List.set_cons_succ, List.set_cons_zero, List.getD_cons_succ, List.getD_cons_zero, List.set_cons_succ]
        (with_reducible apply AP.k_any); first | (refine AP.sm false rfl ?_ ?_; focus ((repeat' (with_reducible apply And.intro)) <;> (first | exact True.intro | exact rfl | omega | (simp; omega) | (simp; done) | assumption | exact .inl rfl | (refine .inr ?_; simp; try omega)))) | fail "no step"
        all_goals (try simp only [nx, Nat.reduceAdd, Nat.reduceSub, BEq.rfl])
        refine AP.nil ?_
        exact ⟨rfl, rfl⟩
      · intro h1 h2
        simp [depsOk, Region.binds] at h1 h2
        subst h1
        (repeat (obtain ⟨rfl, h2⟩ := h2))
        (try subst h2)
        clear hcl
        simp only [cond_true, cond_false, setT, List.set_cons_succ, List.set_cons_zero, List.getD_cons_succ, List.getD_cons_zero, List.set_cons_succ]
        (with_reducible apply AP.k_any); first | (refine AP.sm false rfl ?_ ?_; focus ((repeat' (with_reducible apply And.intro)) <;> (first | exact True.intro | exact rfl | omega | (simp; omega) | (simp; done) | assumption | exact .inl rfl | (refine .inr ?_; simp; try omega)))) | fail "no step"
        all_goals (try simp only [nx, Nat.reduceAdd, Nat.reduceSub, BEq.rfl])
        refine AP.nil ?_
        exact ⟨rfl, rfl⟩
      · intro h1 h2
        simp [depsOk, Region.binds] at h1 h2
        subst h1
        (repeat (obtain ⟨rfl, h2⟩ := h2))
        (try subst h2)
        (first | (obtain rfl : l3 = false := by grind only) | skip)
        (first | (obtain rfl : l7 = false := by grind only) | skip)
        clear hcl
        simp only [cond_true, cond_false, setT, List.set_cons_succ, List.set_cons_zero, List.getD_cons_succ, List.getD_cons_zero, List.set_cons_succ]
        (with_reducible apply AP.k_any); first | (refine AP.sm false rfl ?_ ?_; focus ((repeat' (with_reducible apply And.intro)) <;> (first | exact True.intro | exact rfl | omega | (simp; omega) | (simp; done) | assumption | exact .inl rfl | (refine .inr ?_; simp; try omega)))) | (refine AP.el rfl ?_ (by (first | (refine ⟨?_, ?_⟩; assumption; rfl) | exact ⟨mapAt (by (first | omega | (simp; omega) | (simp; done) | assumption)), rfl⟩ | exact ⟨rfl, rfl⟩)) ?_; focus ((repeat' (with_reducible apply And.intro)) <;> (first | exact True.intro | exact rfl | omega | (simp; omega) | (simp; done) | assumption | exact .inl rfl | (refine .inr ?_; simp; try omega)))) | fail "no step"
        all_goals (try simp only [nx, Nat.reduceAdd, Nat.reduceSub, BEq.rfl])
        refine AP.nil ?_
        exact ⟨rfl, rfl⟩
      · intro h1 h2
        simp [depsOk, Region.binds] at h1 h2
        subst h1
        (repeat (obtain ⟨rfl, h2⟩ := h2))
        (try subst h2)
        (first | (obtain rfl : l7 = false := by grind only) | skip)
        clear hcl
        simp only [cond_true, cond_false, setT, List.set_cons_succ, List.set_cons_zero, List.getD_cons_succ, List.getD_cons_zero, List.set_cons_succ]
        (first
        | ((with_reducible apply AP.k_any); refine AP.CB [(0, 0)] 0 (wint_ac st c.epoch hst) ?_)
        | ((with_reducible apply AP.k_any); refine AP.CB [(0, 0)] 0 (wint_ac _ _ h1) ?_)
        | fail "no arm")
        all_goals (try simp only [nx, Nat.reduceAdd, Nat.reduceSub, BEq.rfl])
        refine AP.nil ?_
        exact ⟨rfl, rfl⟩
      · intro h1 h2
        simp [depsOk, Region.binds] at h1 h2
        subst h1
        (repeat (obtain ⟨rfl, h2⟩ := h2))
        (try subst h2)
        clear hcl
        simp only [cond_true, cond_false, setT, List.set_cons_succ, List.set_cons_zero, List.getD_cons_succ, List.getD_cons_zero, List.set_cons_succ]
        (with_reducible apply AP.k_any); first | (refine AP.sm false rfl ?_ ?_; focus ((repeat' (with_reducible apply And.intro)) <;> (first | exact True.intro | exact rfl | omega | (simp; omega) | (simp; done) | assumption | exact .inl rfl | (refine .inr ?_; simp; try omega)))) | fail "no step"
        all_goals (try simp only [nx, Nat.reduceAdd, Nat.reduceSub, BEq.rfl])
        refine AP.nil ?_
        exact ⟨rfl, rfl⟩
      · intro h1 h2
        simp [depsOk, Region.binds] at h1 h2
        subst h1
        (repeat (obtain ⟨rfl, h2⟩ := h2))
        (try subst h2)
        (first | (obtain rfl : l7 = false := by grind only) | skip)
        clear hcl
        simp only [cond_true, cond_false, setT, List.set_cons_succ, List.set_cons_zero, List.getD_cons_succ, List.getD_cons_zero, List.set_cons_succ]
        (with_reducible apply AP.k_any); first | (refine AP.sm false rfl ?_ ?_; focus ((repeat' (with_reducible apply And.intro)) <;> (first | exact True.intro | exact rfl | omega | (simp; omega) | (simp; done) | assumption | exact .inl rfl | (refine .inr ?_; simp; try omega)))) | (refine AP.el rfl ?_ (by (first | (refine ⟨?_, ?_⟩; assumption; rfl) | exact ⟨mapAt (by (first | omega | (simp; omega) | (simp; done) | assumption)), rfl⟩ | exact ⟨rfl, rfl⟩)) ?_; focus ((repeat' (with_reducible apply And.intro)) <;> (first | exact True.intro | exact rfl | omega | (simp; omega) | (simp; done) | assumption | exact .inl rfl | (refine .inr ?_; simp; try omega)))) | fail "no step"
        all_goals (try simp only [nx, Nat.reduceAdd, Nat.reduceSub, BEq.rfl])
        refine AP.nil ?_
        exact ⟨rfl, rfl⟩
      · intro h1 h2
        simp [depsOk, Region.binds] at h1 h2
        subst h1
        (repeat (obtain ⟨rfl, h2⟩ := h2))
        (try subst h2)
        (first | (obtain rfl : l7 = false := by grind only) | skip)
        clear hcl
        simp only [cond_true, cond_false, setT, List.set_cons_succ, List.set_cons_zero, List.getD_cons_succ, List.getD_cons_zero, List.set_cons_succ]
        (with_reducible apply AP.k_any); first | (refine AP.sm false rfl ?_ ?_; focus ((repeat' (with_reducible apply And.intro)) <;> (first | exact True.intro | exact rfl | omega | (simp; omega) | (simp; done) | assumption | exact .inl rfl | (refine .inr ?_; simp; try omega)))) | fail "no step"
        all_goals (try simp only [nx, Nat.reduceAdd, Nat.reduceSub, BEq.rfl])
        refine AP.nil ?_
        exact ⟨rfl, rfl⟩
      · intro h1 h2
        simp [depsOk, Region.binds] at h1 h2
        subst h1
        (repeat (obtain ⟨rfl, h2⟩ := h2))
        (try subst h2)
        (first | (obtain rfl : l3 = true := by grind only) | skip)
        clear hcl
        simp only [cond_true, cond_false, setT, List.set_cons_succ, List.set_cons_zero, List.getD_cons_succ, List.getD_cons_zero, List.set_cons_succ]
        (first
        | ((with_reducible apply AP.k_any); refine AP.CB [(0, 0)] 0 (wint_ac st c.epoch hst) ?_)
        | ((with_reducible apply AP.k_any); refine AP.CB [(0, 0)] 0 (wint_ac _ _ h1) ?_)
        | fail "no arm")
        all_goals (try simp only [nx, Nat.reduceAdd, Nat.reduceSub, BEq.rfl])
        refine AP.nil ?_
        exact ⟨rfl, rfl⟩
  repeat' (first
    | ((first
    | ((with_reducible apply AP.k_any); first
             | refine AP.S ?_
             | refine AP.E ?_
             | refine AP.T ?_
      )
    
    )
      <;> (try simp only [nx, Nat.reduceAdd, Nat.reduceSub, BEq.rfl]))
    | ((with_reducible apply AP.k_nil); first
        | (refine AP.nil (hQ' _ ?_); clear hQ' Q')
        | refine AP.nil ?_)
    | ((with_reducible apply CP.k_reg); refine cp_regG fun Q' hQ' => ?_)
      | (with_reducible apply CP.k_reg1; refine cp_region ?_)
      | ((with_reducible apply CP.k_cond); first | refine cp_condT rfl ?_ | refine cp_condF rfl ?_ | refine cp_cond rfl (fun hc => ?_) (fun hc => ?_))
      | refine CP.go ?_
      | (simp only [List.append_eq, List.cons_append, List.nil_append]))
  refine CP.gh gh_slot ?_
  simp only [nx, Nat.reduceAdd, Nat.reduceSub, BEq.rfl]
  refine cp_loopS [6, 18, 19, 20, 21, 22, 23, 24, 25, 26, 27, 28, 29, 30, 31, 32] (fun a : Nat × (Bool × List UInt8) × Nat × Nat => c.members.length - a.1) (fun a => a.1 ≤ c.members.length ∧ a.2.1 = (c.members.take a.1).foldl putM (addS (addS st (intS c.epoch)) (intS c.members.length)) ∧ a.2.1.2.length ≤ 65536) (fun a => [(18, I a.1)]) (fun a => [(0, ⟨0, .c tW [B true, B a.2.1.1, .hd 1 a.2.2.1]⟩), (1, ⟨a.2.2.1, .r tU 1 (a.2.1.2.map eB)⟩), (3, ⟨a.2.2.2, .x⟩)]) (0, _, 3, 0) ⟨Nat.zero_le _, rfl, h2⟩ (by exact Gh.W) ?_
  rintro ⟨k, sk, u, um⟩ ⟨hk, hs, ha⟩
  simp only [setT, deT, setB, List.set_cons_succ, List.set_cons_zero]
  dsimp only at hk hs ha
  by_cases hlt : k < c.members.length
  · have hw : IntKind.i64.wrap ((k : Int) + 1) = ((k + 1 : Nat) : Int) := wrap_i64 (by omega) (by omega)
    have g1 := addS_len (b := intS c.members[k].node) ha
    have g2 := addS_len (b := intS c.members[k].since) g1
    repeat' (first
      | ((first
      | ((with_reducible apply AP.k_any); first
               | refine AP.S ?_
               | refine AP.E ?_
               | refine AP.T ?_
        )
      
      )
        <;> (try simp only [nx, Nat.reduceAdd, Nat.reduceSub, BEq.rfl]))
      | ((with_reducible apply AP.k_nil); first
          | (refine AP.nil (hQ' _ ?_); clear hQ' Q')
          | refine AP.nil ?_)
      | ((with_reducible apply CP.k_reg); refine cp_regG fun Q' hQ' => ?_)
        | (with_reducible apply CP.k_reg1; refine cp_region ?_)
        | ((with_reducible apply CP.k_cond); first | refine cp_condT rfl ?_ | refine cp_condF rfl ?_ | refine cp_cond rfl (fun hc => ?_) (fun hc => ?_))
        | refine CP.go ?_
        | (simp only [List.append_eq, List.cons_append, List.nil_append]))
    · refine cp_drawI (fun zs zb => ⟨setT zs.t [(22, cond (zb.getD 0 false) (.bp 0 0 0) (.de)), (23, cond (zb.getD 1 false) (.bp 3 (um + 1) 0) (.de)), (24, cond (zb.getD 2 false) (I c.members[k].node) (.de)), (25, cond (zb.getD 3 false) (.bp 0 0 0) (.de)), (26, cond (zb.getD 4 false) (.bp 3 (um + 1) 1) (.de)), (27, cond (zb.getD 5 false) (I c.members[k].since) (.de)), (28, cond (zb.getD 6 false) (.bp 0 0 0) (.de)), (29, cond (zb.getD 7 false) (.bp 3 (um + 1) 2) (.de)), (30, cond (zb.getD 8 false) (B c.members[k].whole) (.de)), (31, cond (zb.getD 9 false) (.bp 0 0 0) (.de))], ((zs.b.set 0 (cond (zb.getD 9 false) (⟨0, .c tW [B true, B (putM sk c.members[k]).1, .hd 1 (u + 1 + 1 + 1)]⟩) (cond (zb.getD 6 false) (⟨0, .c tW [B true, B (addS (addS sk (intS c.members[k].node)) (intS c.members[k].since)).1, .hd 1 (u + 1 + 1)]⟩) (cond (zb.getD 3 false) (⟨0, .c tW [B true, B (addS sk (intS c.members[k].node)).1, .hd 1 (u + 1)]⟩) (zs.b.getD 0 ⟨0, .x⟩))))).set 1 (cond (zb.getD 9 false) (⟨(u + 1 + 1 + 1), .r tU 1 ((putM sk c.members[k]).2.map eB)⟩) (cond (zb.getD 6 false) (⟨(u + 1 + 1), .r tU 1 ((addS (addS sk (intS c.members[k].node)) (intS c.members[k].since)).2.map eB)⟩) (cond (zb.getD 3 false) (⟨(u + 1), .r tU 1 ((addS sk (intS c.members[k].node)).2.map eB)⟩) (zs.b.getD 1 ⟨0, .x⟩)))))⟩) (by kernel_rfl) (by kernel_rfl) (by kernel_rfl) ?_ ?_
      rotate_left
      simp only [cond_true, cond_false, setT, List.set_cons_succ, List.set_cons_zero, List.getD_cons_succ, List.getD_cons_zero, List.set_cons_succ, List.length_cons, List.length_nil, List.replicate_succ, List.replicate_zero, Nat.reduceAdd]
      rotate_left
      · intro b hb' hcl
        obtain ⟨l0, b0, rfl, hb0⟩ := len_cons hb'
        obtain ⟨l1, b1, rfl, hb1⟩ := len_cons hb0
        obtain ⟨l2, b2, rfl, hb2⟩ := len_cons hb1
        obtain ⟨l3, b3, rfl, hb3⟩ := len_cons hb2
        obtain ⟨l4, b4, rfl, hb4⟩ := len_cons hb3
        obtain ⟨l5, b5, rfl, hb5⟩ := len_cons hb4
        obtain ⟨l6, b6, rfl, hb6⟩ := len_cons hb5
        obtain ⟨l7, b7, rfl, hb7⟩ := len_cons hb6
        obtain ⟨l8, b8, rfl, hb8⟩ := len_cons hb7
        obtain ⟨l9, b9, rfl, hb9⟩ := len_cons hb8
        obtain rfl := List.length_eq_zero_iff.1 hb9
        clear hb' hb0 hb1 hb2 hb3 hb4 hb5 hb6 hb7 hb8 hb9
        · simp only [closedB, depsOk, Region.binds, List.toList_toArray, List.all_cons, List.all_nil, List.getD_cons_succ, List.getD_cons_zero, Bool.not_true, Bool.not_false, Bool.true_or, Bool.false_or, Bool.and_true, Bool.true_and, Bool.or_true, Bool.and_false, Bool.or_false, Bool.false_and, Bool.and_eq_true, Bool.or_eq_true, Bool.not_eq_true'] at hcl
          simp only [StepsP]
          refine ⟨?_, ?_, ?_, ?_, ?_, ?_, ?_, ?_, ?_, ?_, trivial⟩
          · intro h1 h2
            simp [depsOk, Region.binds] at h1 h2
            subst h1
            (repeat (obtain ⟨rfl, h2⟩ := h2))
            (try subst h2)
            clear hcl
            simp only [cond_true, cond_false, setT, List.set_cons_succ, List.set_cons_zero, List.getD_cons_succ, List.getD_cons_zero, List.set_cons_succ]
            (with_reducible apply AP.k_any); first | (refine AP.sm false rfl ?_ ?_; focus ((repeat' (with_reducible apply And.intro)) <;> (first | exact True.intro | exact rfl | omega | (simp; omega) | (simp; done) | assumption | exact .inl rfl | (refine .inr ?_; simp; try omega)))) | fail "no step"
            all_goals (try simp only [nx, Nat.reduceAdd, Nat.reduceSub, BEq.rfl])
            refine AP.nil ?_
            exact ⟨rfl, rfl⟩
          · intro h1 h2
            simp [depsOk, Region.binds] at h1 h2
            subst h1
            (repeat (obtain ⟨rfl, h2⟩ := h2))
            (try subst h2)
            clear hcl
            simp only [cond_true, cond_false, setT, List.set_cons_succ, List.set_cons_zero, List.getD_cons_succ, List.getD_cons_zero, List.set_cons_succ]
            (with_reducible apply AP.k_any); first | (refine AP.sm false rfl ?_ ?_; focus ((repeat' (with_reducible apply And.intro)) <;> (first | exact True.intro | exact rfl | omega | (simp; omega) | (simp; done) | assumption | exact .inl rfl | (refine .inr ?_; simp; try omega)))) | fail "no step"
            all_goals (try simp only [nx, Nat.reduceAdd, Nat.reduceSub, BEq.rfl])
            refine AP.nil ?_
            exact ⟨rfl, rfl⟩
          · intro h1 h2
            simp [depsOk, Region.binds] at h1 h2
            subst h1
            (repeat (obtain ⟨rfl, h2⟩ := h2))
            (try subst h2)
            (first | (obtain rfl : l3 = false := by grind only) | skip)
            (first | (obtain rfl : l6 = false := by grind only) | skip)
            (first | (obtain rfl : l9 = false := by grind only) | skip)
            clear hcl
            simp only [cond_true, cond_false, setT, List.set_cons_succ, List.set_cons_zero, List.getD_cons_succ, List.getD_cons_zero, List.set_cons_succ]
            (with_reducible apply AP.k_any); first | (refine AP.sm false rfl ?_ ?_; focus ((repeat' (with_reducible apply And.intro)) <;> (first | exact True.intro | exact rfl | omega | (simp; omega) | (simp; done) | assumption | exact .inl rfl | (refine .inr ?_; simp; try omega)))) | (refine AP.el rfl ?_ (by (first | (refine ⟨?_, ?_⟩; assumption; rfl) | exact ⟨mapAt (by (first | omega | (simp; omega) | (simp; done) | assumption)), rfl⟩ | exact ⟨rfl, rfl⟩)) ?_; focus ((repeat' (with_reducible apply And.intro)) <;> (first | exact True.intro | exact rfl | omega | (simp; omega) | (simp; done) | assumption | exact .inl rfl | (refine .inr ?_; simp; try omega)))) | fail "no step"
            all_goals (try simp only [nx, Nat.reduceAdd, Nat.reduceSub, BEq.rfl])
            refine AP.nil ?_
            exact ⟨rfl, rfl⟩
          · intro h1 h2
            simp [depsOk, Region.binds] at h1 h2
            subst h1
            (repeat (obtain ⟨rfl, h2⟩ := h2))
            (try subst h2)
            (first | (obtain rfl : l6 = false := by grind only) | skip)
            (first | (obtain rfl : l9 = false := by grind only) | skip)
            clear hcl
            simp only [cond_true, cond_false, setT, List.set_cons_succ, List.set_cons_zero, List.getD_cons_succ, List.getD_cons_zero, List.set_cons_succ]
            (first
            | ((with_reducible apply AP.k_any); refine AP.CB [(0, 0)] 0 (wint_ac sk _ ha) ?_)
            | ((with_reducible apply AP.k_any); refine AP.CB [(0, 0)] 0 (wint_ac _ _ g1) ?_)
            | ((with_reducible apply AP.k_any); refine AP.CB [(0, 0)] 0 (wflag_ac _ _ g2) ?_)
            | fail "no arm")
            all_goals (try simp only [nx, Nat.reduceAdd, Nat.reduceSub, BEq.rfl])
            refine AP.nil ?_
            exact ⟨rfl, rfl⟩
          · intro h1 h2
            simp [depsOk, Region.binds] at h1 h2
            subst h1
            (repeat (obtain ⟨rfl, h2⟩ := h2))
            (try subst h2)
            clear hcl
            simp only [cond_true, cond_false, setT, List.set_cons_succ, List.set_cons_zero, List.getD_cons_succ, List.getD_cons_zero, List.set_cons_succ]
            (with_reducible apply AP.k_any); first | (refine AP.sm false rfl ?_ ?_; focus ((repeat' (with_reducible apply And.intro)) <;> (first | exact True.intro | exact rfl | omega | (simp; omega) | (simp; done) | assumption | exact .inl rfl | (refine .inr ?_; simp; try omega)))) | fail "no step"
            all_goals (try simp only [nx, Nat.reduceAdd, Nat.reduceSub, BEq.rfl])
            refine AP.nil ?_
            exact ⟨rfl, rfl⟩
          · intro h1 h2
            simp [depsOk, Region.binds] at h1 h2
            subst h1
            (repeat (obtain ⟨rfl, h2⟩ := h2))
            (try subst h2)
            (first | (obtain rfl : l6 = false := by grind only) | skip)
            (first | (obtain rfl : l9 = false := by grind only) | skip)
            clear hcl
            simp only [cond_true, cond_false, setT, List.set_cons_succ, List.set_cons_zero, List.getD_cons_succ, List.getD_cons_zero, List.set_cons_succ]
            (with_reducible apply AP.k_any); first | (refine AP.sm false rfl ?_ ?_; focus ((repeat' (with_reducible apply And.intro)) <;> (first | exact True.intro | exact rfl | omega | (simp; omega) | (simp; done) | assumption | exact .inl rfl | (refine .inr ?_; simp; try omega)))) | (refine AP.el rfl ?_ (by (first | (refine ⟨?_, ?_⟩; assumption; rfl) | exact ⟨mapAt (by (first | omega | (simp; omega) | (simp; done) | assumption)), rfl⟩ | exact ⟨rfl, rfl⟩)) ?_; focus ((repeat' (with_reducible apply And.intro)) <;> (first | exact True.intro | exact rfl | omega | (simp; omega) | (simp; done) | assumption | exact .inl rfl | (refine .inr ?_; simp; try omega)))) | fail "no step"
            all_goals (try simp only [nx, Nat.reduceAdd, Nat.reduceSub, BEq.rfl])
            refine AP.nil ?_
            exact ⟨rfl, rfl⟩
          · intro h1 h2
            simp [depsOk, Region.binds] at h1 h2
            subst h1
            (repeat (obtain ⟨rfl, h2⟩ := h2))
            (try subst h2)
            (first | (obtain rfl : l3 = true := by grind only) | skip)
            (first | (obtain rfl : l9 = false := by grind only) | skip)
            clear hcl
            simp only [cond_true, cond_false, setT, List.set_cons_succ, List.set_cons_zero, List.getD_cons_succ, List.getD_cons_zero, List.set_cons_succ]
            (first
            | ((with_reducible apply AP.k_any); refine AP.CB [(0, 0)] 0 (wint_ac sk _ ha) ?_)
            | ((with_reducible apply AP.k_any); refine AP.CB [(0, 0)] 0 (wint_ac _ _ g1) ?_)
            | ((with_reducible apply AP.k_any); refine AP.CB [(0, 0)] 0 (wflag_ac _ _ g2) ?_)
            | fail "no arm")
            all_goals (try simp only [nx, Nat.reduceAdd, Nat.reduceSub, BEq.rfl])
            refine AP.nil ?_
            exact ⟨rfl, rfl⟩
          · intro h1 h2
            simp [depsOk, Region.binds] at h1 h2
            subst h1
            (repeat (obtain ⟨rfl, h2⟩ := h2))
            (try subst h2)
            clear hcl
            simp only [cond_true, cond_false, setT, List.set_cons_succ, List.set_cons_zero, List.getD_cons_succ, List.getD_cons_zero, List.set_cons_succ]
            (with_reducible apply AP.k_any); first | (refine AP.sm false rfl ?_ ?_; focus ((repeat' (with_reducible apply And.intro)) <;> (first | exact True.intro | exact rfl | omega | (simp; omega) | (simp; done) | assumption | exact .inl rfl | (refine .inr ?_; simp; try omega)))) | fail "no step"
            all_goals (try simp only [nx, Nat.reduceAdd, Nat.reduceSub, BEq.rfl])
            refine AP.nil ?_
            exact ⟨rfl, rfl⟩
          · intro h1 h2
            simp [depsOk, Region.binds] at h1 h2
            subst h1
            (repeat (obtain ⟨rfl, h2⟩ := h2))
            (try subst h2)
            (first | (obtain rfl : l9 = false := by grind only) | skip)
            clear hcl
            simp only [cond_true, cond_false, setT, List.set_cons_succ, List.set_cons_zero, List.getD_cons_succ, List.getD_cons_zero, List.set_cons_succ]
            (with_reducible apply AP.k_any); first | (refine AP.sm false rfl ?_ ?_; focus ((repeat' (with_reducible apply And.intro)) <;> (first | exact True.intro | exact rfl | omega | (simp; omega) | (simp; done) | assumption | exact .inl rfl | (refine .inr ?_; simp; try omega)))) | (refine AP.el rfl ?_ (by (first | (refine ⟨?_, ?_⟩; assumption; rfl) | exact ⟨mapAt (by (first | omega | (simp; omega) | (simp; done) | assumption)), rfl⟩ | exact ⟨rfl, rfl⟩)) ?_; focus ((repeat' (with_reducible apply And.intro)) <;> (first | exact True.intro | exact rfl | omega | (simp; omega) | (simp; done) | assumption | exact .inl rfl | (refine .inr ?_; simp; try omega)))) | fail "no step"
            all_goals (try simp only [nx, Nat.reduceAdd, Nat.reduceSub, BEq.rfl])
            refine AP.nil ?_
            exact ⟨rfl, rfl⟩
          · intro h1 h2
            simp [depsOk, Region.binds] at h1 h2
            subst h1
            (repeat (obtain ⟨rfl, h2⟩ := h2))
            (try subst h2)
            (first | (obtain rfl : l3 = true := by grind only) | skip)
            (first | (obtain rfl : l6 = true := by grind only) | skip)
            clear hcl
            simp only [cond_true, cond_false, setT, List.set_cons_succ, List.set_cons_zero, List.getD_cons_succ, List.getD_cons_zero, List.set_cons_succ]
            (first
            | ((with_reducible apply AP.k_any); refine AP.CB [(0, 0)] 0 (wint_ac sk _ ha) ?_)
            | ((with_reducible apply AP.k_any); refine AP.CB [(0, 0)] 0 (wint_ac _ _ g1) ?_)
            | ((with_reducible apply AP.k_any); refine AP.CB [(0, 0)] 0 (wflag_ac _ _ g2) ?_)
            | fail "no arm")
            all_goals (try simp only [nx, Nat.reduceAdd, Nat.reduceSub, BEq.rfl])
            refine AP.nil ?_
            exact ⟨rfl, rfl⟩
      repeat' (first
        | ((first
        | ((with_reducible apply AP.k_any); first
                 | refine AP.S ?_
                 | refine AP.E ?_
                 | refine AP.T ?_
          )
        
        )
          <;> (try simp only [nx, Nat.reduceAdd, Nat.reduceSub, BEq.rfl]))
        | ((with_reducible apply AP.k_nil); first
            | (refine AP.nil (hQ' _ ?_); clear hQ' Q')
            | refine AP.nil ?_)
        | ((with_reducible apply CP.k_reg); refine cp_regG fun Q' hQ' => ?_)
          | (with_reducible apply CP.k_reg1; refine cp_region ?_)
          | ((with_reducible apply CP.k_cond); first | refine cp_condT rfl ?_ | refine cp_condF rfl ?_ | refine cp_cond rfl (fun hc => ?_) (fun hc => ?_))
          | refine CP.go ?_
          | (simp only [List.append_eq, List.cons_append, List.nil_append]))
      simp only [hw]
      exact ⟨(k + 1, putM sk c.members[k], u + 1 + 1 + 1, um + 1), by (dsimp only; omega), ⟨by (dsimp only; omega), by (dsimp only; rw [List.take_succ_eq_append_getElem hlt, List.foldl_append, ← hs]; rfl), putM_len ha⟩, by exact Gh.W⟩
    · exfalso; simp at *; omega
  · obtain rfl : k = c.members.length := by omega
    rw [List.take_length] at hs
    have hs' : sk = putC st c := hs
    rw [← hs']
    repeat' (first
      | ((first
      | ((with_reducible apply AP.k_any); first
               | refine AP.S ?_
               | refine AP.E ?_
               | refine AP.T ?_
        )
      
      )
        <;> (try simp only [nx, Nat.reduceAdd, Nat.reduceSub, BEq.rfl]))
      | ((with_reducible apply AP.k_nil); first
          | (refine AP.nil (hQ' _ ?_); clear hQ' Q')
          | refine AP.nil ?_)
      | ((with_reducible apply CP.k_reg); refine cp_regG fun Q' hQ' => ?_)
        | (with_reducible apply CP.k_reg1; refine cp_region ?_)
        | ((with_reducible apply CP.k_cond); first | refine cp_condT rfl ?_ | refine cp_condF rfl ?_ | refine cp_cond rfl (fun hc => ?_) (fun hc => ?_))
        | refine CP.go ?_
        | (simp only [List.append_eq, List.cons_append, List.nil_append]))
    all_goals first
      | (exfalso; simp at *; done)
      | (exfalso; simp at *; omega)
      | (exact RetQ.A [(0, 0)] (by exact ⟨rfl, rfl⟩))
end Go.Proofs.Ytpdegeknhapgmaa

namespace Go.Proofs.Ytpdegeknhapgmaa
set_option linter.unusedVariables false
set_option linter.unusedSimpArgs false
set_option maxHeartbeats 8000000
open Go.RowKit
set_option maxRecDepth 100000
def allGE (p : Nat → Entry → Bool) : Nat → List Entry → Bool
  | _, [] => true
  | k, m :: l => p k m && allGE p (k + 1) l
theorem all3_ac (f : Nat) (m : Msg) (p : Nat → Entry → Bool) (l : List Entry) (hl : l.length ≤ 100000000) (hf : ∀ (i : Nat) (h : i < l.length), AC Try.prog f [I i, .ag (eE none l[i]), .bp 0 0 0] [.c tMsg (eG m)] (fun v bs => v = B (p i l[i]) ∧ bs = [.c tMsg (eG m)])) :
    AC Try.prog 118 [es none none l, .fn f [.bp 0 0 0]] [.c tMsg (eG m)] (fun v bs => v = B (allGE p 0 l) ∧ bs = [.c tMsg (eG m)]) := by
  refine AC.N Try.func118 Try.ntmps118 ?_
  intro X
  simp only [nx, Nat.reduceAdd, Nat.reduceSub, BEq.rfl]
  repeat' (first
    | ((first
    | ((with_reducible apply AP.k_any); first
             | refine AP.S ?_
             | refine AP.E ?_
             | refine AP.T ?_
      )
    
    )
      <;> (try simp only [nx, Nat.reduceAdd, Nat.reduceSub, BEq.rfl]))
    | ((with_reducible apply AP.k_nil); first
        | (refine AP.nil (hQ' _ ?_); clear hQ' Q')
        | refine AP.nil ?_)
    | ((with_reducible apply CP.k_reg); refine cp_regG fun Q' hQ' => ?_)
      | (with_reducible apply CP.k_reg1; refine cp_region ?_)
      | ((with_reducible apply CP.k_cond); first | refine cp_condT rfl ?_ | refine cp_condF rfl ?_ | refine cp_cond rfl (fun hc => ?_) (fun hc => ?_))
      | refine CP.go ?_
      | (simp only [List.append_eq, List.cons_append, List.nil_append]))
  refine CP.gh gh_slot ?_
  simp only [nx, Nat.reduceAdd, Nat.reduceSub, BEq.rfl]
  refine cp_loopS [4, 5, 6, 9, 10, 11, 12, 13, 14, 15, 16, 17, 18, 19] (fun a : Nat × Nat => l.length - a.1) (fun a => a.1 ≤ l.length ∧ allGE p 0 l = allGE p a.1 (l.drop a.1)) (fun a => [(9, I a.1)]) (fun a => [(1, ⟨a.2, .x⟩)]) (0, 0) ⟨Nat.zero_le _, rfl⟩ (by exact Gh.W) ?_
  rintro ⟨k, u⟩ ⟨hk, he⟩
  simp only [setT, deT, setB, List.set_cons_succ, List.set_cons_zero]
  dsimp only at hk he
  by_cases hlt : k < l.length
  · have hw : IntKind.i64.wrap ((k : Int) + 1) = ((k + 1 : Nat) : Int) := wrap_i64 (by omega) (by omega)
    rw [List.drop_eq_getElem_cons hlt, allGE] at he
    repeat' (first
      | ((first
      | ((with_reducible apply AP.k_any); first
               | refine AP.S ?_
               | refine AP.E ?_
               | refine AP.T ?_
        )
      | ((with_reducible apply AP.k_any); refine ap_callB 0 [(0, 0)] rfl rfl (fn := f) rfl (hf k hlt) (by (repeat' (first | exact PasC.nil | apply PasC.nil | apply PasC.cons | apply PasV.leaf rfl | apply PasV.nl | apply PasV.bp rfl | apply PasV.lend rfl rfl rfl | apply PasV.lend rfl rfl (ro_B _) | apply PasV.lend rfl rfl (ro_M _) | apply PasV.lend rfl rfl (ro_E _ _) | apply PasV.lend rfl rfl (ro_I _) | apply PasV.mv rfl | apply PasV.ag | apply PasV.fn | exact PasV.fs | apply PasV.any))) (by (repeat' (first | exact Out.nil | apply Out.cons rfl | exact ClsC.nil | apply ClsC.nl | apply ClsC.leaf rfl | apply ClsC.hd rfl | apply ClsC.fn | apply ClsC.fz rfl (ro_B _) | apply ClsC.fz rfl (ro_M _) | apply ClsC.fz rfl (ro_E _ _) | apply ClsC.fz rfl rfl))) rfl (by (repeat' (first | exact Bk.nil | apply Bk.cons rfl rfl rfl))) (by (repeat' (first | exact RnV.leaf rfl | exact RnC.nil | apply RnC.cons | apply RnV.ag | apply RnV.tu | exact RnV.bp rfl))) rfl ?_)
      )
        <;> (try simp only [nx, Nat.reduceAdd, Nat.reduceSub, BEq.rfl]))
      | ((with_reducible apply AP.k_nil); first
          | (refine AP.nil (hQ' _ ?_); clear hQ' Q')
          | refine AP.nil ?_)
      | ((with_reducible apply CP.k_reg); refine cp_regG fun Q' hQ' => ?_)
        | (with_reducible apply CP.k_reg1; refine cp_region ?_)
        | ((with_reducible apply CP.k_cond); first | refine cp_condT rfl ?_ | refine cp_condF rfl ?_ | refine cp_cond rfl (fun hc => ?_) (fun hc => ?_))
        | refine CP.go ?_
        | (simp only [List.append_eq, List.cons_append, List.nil_append]))
    · (refine RetQ.B [(0, 0)] ?_; (try dsimp only [resV, List.getD_cons_succ, List.getD_cons_zero]); ((have h : p k l[k] = false := by simpa using hc); exact ⟨by rw [he, h, Bool.false_and], rfl⟩))
    · simp only [hw]
      exact ⟨(k + 1, u + 1), by (dsimp only; omega), ⟨by (dsimp only; omega), by (have h : p k l[k] = true := by simpa using hc); rw [he, h, Bool.true_and]⟩, by exact Gh.W⟩
    · exfalso; simp at *; omega
  · rw [List.drop_of_length_le (by omega), allGE] at he
    repeat' (first
      | ((first
      | ((with_reducible apply AP.k_any); first
               | refine AP.S ?_
               | refine AP.E ?_
               | refine AP.T ?_
        )
      
      )
        <;> (try simp only [nx, Nat.reduceAdd, Nat.reduceSub, BEq.rfl]))
      | ((with_reducible apply AP.k_nil); first
          | (refine AP.nil (hQ' _ ?_); clear hQ' Q')
          | refine AP.nil ?_)
      | ((with_reducible apply CP.k_reg); refine cp_regG fun Q' hQ' => ?_)
        | (with_reducible apply CP.k_reg1; refine cp_region ?_)
        | ((with_reducible apply CP.k_cond); first | refine cp_condT rfl ?_ | refine cp_condF rfl ?_ | refine cp_cond rfl (fun hc => ?_) (fun hc => ?_))
        | refine CP.go ?_
        | (simp only [List.append_eq, List.cons_append, List.nil_append]))
    all_goals first
      | (exfalso; simp at *; done)
      | (exfalso; simp at *; omega)
      | (refine RetQ.B [(0, 0)] ?_; (try dsimp only [resV, List.getD_cons_succ, List.getD_cons_zero]); (exact ⟨by rw [he], rfl⟩))
def pEnt (m : Msg) : Nat → Entry → Bool := fun i e => mayE e && IntKind.i64.wrap (e.pos - m.frm) == (i : Int)
def mayEnt (m : Msg) : Bool := decide (0 ≤ m.upto) && decide (1 ≤ m.frm) && decide (m.entries.length ≤ 4) && allGE (pEnt m) 0 m.entries
theorem ent11_ac (i : Nat) (e : Entry) (m : Msg) : AC Try.prog 119 [I i, .ag (eE none e), .bp 0 0 0] [.c tMsg (eG m)] (fun v bs => v = B (pEnt m i e) ∧ bs = [.c tMsg (eG m)]) := by
  refine AC.N Try.func119 Try.ntmps119 ?_
  intro X
  simp only [nx, Nat.reduceAdd, Nat.reduceSub, BEq.rfl]
  repeat' (first
    | ((first
    | ((with_reducible apply AP.k_any); first
             | refine AP.S ?_
             | (refine AP.Y ?_; dsimp only) | refine AP.G (fun hg => ?_) (fun hg => ?_)
      )
    | ((with_reducible apply AP.k_any); refine AP.C (mayEntry_ac _) ?_)
    )
      <;> (try simp only [nx, Nat.reduceAdd, Nat.reduceSub, BEq.rfl]))
    | ((with_reducible apply AP.k_nil); first
        | (refine AP.nil (hQ' _ ?_); clear hQ' Q')
        | refine AP.nil ?_)
    | ((with_reducible apply CP.k_reg); refine cp_regG fun Q' hQ' => ?_)
      | (with_reducible apply CP.k_reg1; refine cp_region ?_)
      | ((with_reducible apply CP.k_cond); first | refine cp_condT rfl ?_ | refine cp_condF rfl ?_ | refine cp_cond rfl (fun hc => ?_) (fun hc => ?_))
      | refine CP.go ?_
      | (simp only [List.append_eq, List.cons_append, List.nil_append]))
  all_goals (refine RetQ.B [(0, 0)] ?_; (try dsimp only [resV, List.getD_cons_succ, List.getD_cons_zero]); ((refine ⟨?_, rfl⟩; simp at *; simp [pEnt, *])))
theorem emay1_ac (m : Msg) (hl : m.entries.length ≤ 100000000) : AC Try.prog 117 [.ag (eG m)] [] (fun v bs => v = B (mayEnt m) ∧ bs = []) := by
  have h := all3_ac 119 m (pEnt m) m.entries hl (fun i h => ent11_ac i _ m)
  refine AC.N Try.func117 Try.ntmps117 ?_
  intro X
  simp only [nx, Nat.reduceAdd, Nat.reduceSub, BEq.rfl]
  repeat' (first
    | ((first
    | ((with_reducible apply AP.k_any); first
             | refine AP.S ?_
             | (refine AP.Y ?_; dsimp only) | refine AP.G (fun hg => ?_) (fun hg => ?_)
      )
    | ((with_reducible apply AP.k_any); refine AP.CB [(0, 1)] 0 (h) ?_)
    )
      <;> (try simp only [nx, Nat.reduceAdd, Nat.reduceSub, BEq.rfl]))
    | ((with_reducible apply AP.k_nil); first
        | (refine AP.nil (hQ' _ ?_); clear hQ' Q')
        | refine AP.nil ?_)
    | ((with_reducible apply CP.k_reg); refine cp_regG fun Q' hQ' => ?_)
      | (with_reducible apply CP.k_reg1; refine cp_region ?_)
      | ((with_reducible apply CP.k_cond); first | refine cp_condT rfl ?_ | refine cp_condF rfl ?_ | refine cp_cond rfl (fun hc => ?_) (fun hc => ?_))
      | refine CP.go ?_
      | (simp only [List.append_eq, List.cons_append, List.nil_append]))
  all_goals (refine RetQ.B [] ?_; (try dsimp only [resV, List.getD_cons_succ, List.getD_cons_zero]); ((refine ⟨?_, rfl⟩; simp at *; simp [mayEnt, *]; try omega)))
/-! which kind -/
def ofS (k : Nat) : List AV × Bool := match k with
  | 1 => (kAsk, true)
  | 2 => (kEnt, true)
  | 3 => (kHave, true)
  | 4 => (kCfg, true)
  | 5 => (kWhole, true)
  | 6 => (kAsk, true)
  | _ => (kNo, false)
theorem of1_ac (m : Msg) (h : m.kind.toNat = 1) : AC Try.prog 53 [.ag (eG m)] [] (fun v bs => v = .tu [.ag kAsk, B true] ∧ bs = []) := by
  have e : (m.kind.toNat : Int) = 1 := by omega
  refine AC.N Try.func53 Try.ntmps53 ?_
  intro X
  simp only [nx, Nat.reduceAdd, Nat.reduceSub, BEq.rfl]
  simp only [e]
  repeat' (first
    | ((first
    | ((with_reducible apply AP.k_any); first
             | refine AP.S ?_
             | refine AP.E ?_
             | (refine AP.Y ?_; dsimp only) | refine AP.G (fun hg => ?_) (fun hg => ?_)
             | refine AP.T ?_
      )
    | ((with_reducible apply AP.k_any); refine AP.C (kinds_ac) ?_)
    )
      <;> (try simp only [nx, Nat.reduceAdd, Nat.reduceSub, BEq.rfl]))
    | ((with_reducible apply AP.k_nil); first
        | (refine AP.nil (hQ' _ ?_); clear hQ' Q')
        | refine AP.nil ?_)
    | ((with_reducible apply CP.k_reg); refine cp_regG fun Q' hQ' => ?_)
      | (with_reducible apply CP.k_reg1; refine cp_region ?_)
      | ((with_reducible apply CP.k_cond); first | refine cp_condT rfl ?_ | refine cp_condF rfl ?_ | refine cp_cond rfl (fun hc => ?_) (fun hc => ?_))
      | refine CP.go ?_
      | (simp only [List.append_eq, List.cons_append, List.nil_append]))
  all_goals first | (exact RetQ.A [] (by exact ⟨rfl, rfl⟩)) | (exfalso; simp at *; done)
theorem of2_ac (m : Msg) (h : m.kind.toNat = 2) : AC Try.prog 53 [.ag (eG m)] [] (fun v bs => v = .tu [.ag kEnt, B true] ∧ bs = []) := by
  have e : (m.kind.toNat : Int) = 2 := by omega
  refine AC.N Try.func53 Try.ntmps53 ?_
  intro X
  simp only [nx, Nat.reduceAdd, Nat.reduceSub, BEq.rfl]
  simp only [e]
  repeat' (first
    | ((first
    | ((with_reducible apply AP.k_any); first
             | refine AP.S ?_
             | refine AP.E ?_
             | (refine AP.Y ?_; dsimp only) | refine AP.G (fun hg => ?_) (fun hg => ?_)
             | refine AP.T ?_
      )
    | ((with_reducible apply AP.k_any); refine AP.C (kinds_ac) ?_)
    )
      <;> (try simp only [nx, Nat.reduceAdd, Nat.reduceSub, BEq.rfl]))
    | ((with_reducible apply AP.k_nil); first
        | (refine AP.nil (hQ' _ ?_); clear hQ' Q')
        | refine AP.nil ?_)
    | ((with_reducible apply CP.k_reg); refine cp_regG fun Q' hQ' => ?_)
      | (with_reducible apply CP.k_reg1; refine cp_region ?_)
      | ((with_reducible apply CP.k_cond); first | refine cp_condT rfl ?_ | refine cp_condF rfl ?_ | refine cp_cond rfl (fun hc => ?_) (fun hc => ?_))
      | refine CP.go ?_
      | (simp only [List.append_eq, List.cons_append, List.nil_append]))
  all_goals first | (exact RetQ.A [] (by exact ⟨rfl, rfl⟩)) | (exfalso; simp at *; done)
theorem of3_ac (m : Msg) (h : m.kind.toNat = 3) : AC Try.prog 53 [.ag (eG m)] [] (fun v bs => v = .tu [.ag kHave, B true] ∧ bs = []) := by
  have e : (m.kind.toNat : Int) = 3 := by omega
  refine AC.N Try.func53 Try.ntmps53 ?_
  intro X
  simp only [nx, Nat.reduceAdd, Nat.reduceSub, BEq.rfl]
  simp only [e]
  repeat' (first
    | ((first
    | ((with_reducible apply AP.k_any); first
             | refine AP.S ?_
             | refine AP.E ?_
             | (refine AP.Y ?_; dsimp only) | refine AP.G (fun hg => ?_) (fun hg => ?_)
             | refine AP.T ?_
      )
    | ((with_reducible apply AP.k_any); refine AP.C (kinds_ac) ?_)
    )
      <;> (try simp only [nx, Nat.reduceAdd, Nat.reduceSub, BEq.rfl]))
    | ((with_reducible apply AP.k_nil); first
        | (refine AP.nil (hQ' _ ?_); clear hQ' Q')
        | refine AP.nil ?_)
    | ((with_reducible apply CP.k_reg); refine cp_regG fun Q' hQ' => ?_)
      | (with_reducible apply CP.k_reg1; refine cp_region ?_)
      | ((with_reducible apply CP.k_cond); first | refine cp_condT rfl ?_ | refine cp_condF rfl ?_ | refine cp_cond rfl (fun hc => ?_) (fun hc => ?_))
      | refine CP.go ?_
      | (simp only [List.append_eq, List.cons_append, List.nil_append]))
  all_goals first | (exact RetQ.A [] (by exact ⟨rfl, rfl⟩)) | (exfalso; simp at *; done)
theorem of4_ac (m : Msg) (h : m.kind.toNat = 4) : AC Try.prog 53 [.ag (eG m)] [] (fun v bs => v = .tu [.ag kCfg, B true] ∧ bs = []) := by
  have e : (m.kind.toNat : Int) = 4 := by omega
  refine AC.N Try.func53 Try.ntmps53 ?_
  intro X
  simp only [nx, Nat.reduceAdd, Nat.reduceSub, BEq.rfl]
  simp only [e]
  repeat' (first
    | ((first
    | ((with_reducible apply AP.k_any); first
             | refine AP.S ?_
             | refine AP.E ?_
             | (refine AP.Y ?_; dsimp only) | refine AP.G (fun hg => ?_) (fun hg => ?_)
             | refine AP.T ?_
      )
    | ((with_reducible apply AP.k_any); refine AP.C (kinds_ac) ?_)
    )
      <;> (try simp only [nx, Nat.reduceAdd, Nat.reduceSub, BEq.rfl]))
    | ((with_reducible apply AP.k_nil); first
        | (refine AP.nil (hQ' _ ?_); clear hQ' Q')
        | refine AP.nil ?_)
    | ((with_reducible apply CP.k_reg); refine cp_regG fun Q' hQ' => ?_)
      | (with_reducible apply CP.k_reg1; refine cp_region ?_)
      | ((with_reducible apply CP.k_cond); first | refine cp_condT rfl ?_ | refine cp_condF rfl ?_ | refine cp_cond rfl (fun hc => ?_) (fun hc => ?_))
      | refine CP.go ?_
      | (simp only [List.append_eq, List.cons_append, List.nil_append]))
  all_goals first | (exact RetQ.A [] (by exact ⟨rfl, rfl⟩)) | (exfalso; simp at *; done)
theorem of5_ac (m : Msg) (h : m.kind.toNat = 5) : AC Try.prog 53 [.ag (eG m)] [] (fun v bs => v = .tu [.ag kWhole, B true] ∧ bs = []) := by
  have e : (m.kind.toNat : Int) = 5 := by omega
  refine AC.N Try.func53 Try.ntmps53 ?_
  intro X
  simp only [nx, Nat.reduceAdd, Nat.reduceSub, BEq.rfl]
  simp only [e]
  repeat' (first
    | ((first
    | ((with_reducible apply AP.k_any); first
             | refine AP.S ?_
             | refine AP.E ?_
             | (refine AP.Y ?_; dsimp only) | refine AP.G (fun hg => ?_) (fun hg => ?_)
             | refine AP.T ?_
      )
    | ((with_reducible apply AP.k_any); refine AP.C (kinds_ac) ?_)
    )
      <;> (try simp only [nx, Nat.reduceAdd, Nat.reduceSub, BEq.rfl]))
    | ((with_reducible apply AP.k_nil); first
        | (refine AP.nil (hQ' _ ?_); clear hQ' Q')
        | refine AP.nil ?_)
    | ((with_reducible apply CP.k_reg); refine cp_regG fun Q' hQ' => ?_)
      | (with_reducible apply CP.k_reg1; refine cp_region ?_)
      | ((with_reducible apply CP.k_cond); first | refine cp_condT rfl ?_ | refine cp_condF rfl ?_ | refine cp_cond rfl (fun hc => ?_) (fun hc => ?_))
      | refine CP.go ?_
      | (simp only [List.append_eq, List.cons_append, List.nil_append]))
  all_goals first | (exact RetQ.A [] (by exact ⟨rfl, rfl⟩)) | (exfalso; simp at *; done)
theorem of6_ac (m : Msg) (h : m.kind.toNat = 6) : AC Try.prog 53 [.ag (eG m)] [] (fun v bs => v = .tu [.ag kAsk, B true] ∧ bs = []) := by
  have e : (m.kind.toNat : Int) = 6 := by omega
  refine AC.N Try.func53 Try.ntmps53 ?_
  intro X
  simp only [nx, Nat.reduceAdd, Nat.reduceSub, BEq.rfl]
  simp only [e]
  repeat' (first
    | ((first
    | ((with_reducible apply AP.k_any); first
             | refine AP.S ?_
             | refine AP.E ?_
             | (refine AP.Y ?_; dsimp only) | refine AP.G (fun hg => ?_) (fun hg => ?_)
             | refine AP.T ?_
      )
    | ((with_reducible apply AP.k_any); refine AP.C (kinds_ac) ?_)
    )
      <;> (try simp only [nx, Nat.reduceAdd, Nat.reduceSub, BEq.rfl]))
    | ((with_reducible apply AP.k_nil); first
        | (refine AP.nil (hQ' _ ?_); clear hQ' Q')
        | refine AP.nil ?_)
    | ((with_reducible apply CP.k_reg); refine cp_regG fun Q' hQ' => ?_)
      | (with_reducible apply CP.k_reg1; refine cp_region ?_)
      | ((with_reducible apply CP.k_cond); first | refine cp_condT rfl ?_ | refine cp_condF rfl ?_ | refine cp_cond rfl (fun hc => ?_) (fun hc => ?_))
      | refine CP.go ?_
      | (simp only [List.append_eq, List.cons_append, List.nil_append]))
  all_goals first | (exact RetQ.A [] (by exact ⟨rfl, rfl⟩)) | (exfalso; simp at *; done)
theorem ofNo_ac (m : Msg) (h : m.kind.toNat = 0 ∨ 7 ≤ m.kind.toNat) : AC Try.prog 53 [.ag (eG m)] [] (fun v bs => v = .tu [.ag kNo, B false] ∧ bs = []) := by
  have hw : IntKind.i64.wrap (m.kind.toNat : Int) = (m.kind.toNat : Int) := wrap_i64 (by omega) (by have := m.kind.toNat_lt; omega)
  refine AC.N Try.func53 Try.ntmps53 ?_
  intro X
  simp only [nx, Nat.reduceAdd, Nat.reduceSub, BEq.rfl]
  repeat' (first
    | ((first
    | ((with_reducible apply AP.k_any); first
             | refine AP.S ?_
             | refine AP.E ?_
             | (refine AP.Y ?_; dsimp only) | refine AP.G (fun hg => ?_) (fun hg => ?_)
             | refine AP.T ?_
      )
    | ((with_reducible apply AP.k_any); refine AP.C (kinds_ac) ?_)
    )
      <;> (try simp only [nx, Nat.reduceAdd, Nat.reduceSub, BEq.rfl]))
    | ((with_reducible apply AP.k_nil); first
        | (refine AP.nil (hQ' _ ?_); clear hQ' Q')
        | refine AP.nil ?_)
    | ((with_reducible apply CP.k_reg); refine cp_regG fun Q' hQ' => ?_)
      | (with_reducible apply CP.k_reg1; refine cp_region ?_)
      | ((with_reducible apply CP.k_cond); first | refine cp_condT rfl ?_ | refine cp_condF rfl ?_ | refine cp_cond rfl (fun hc => ?_) (fun hc => ?_))
      | refine CP.go ?_
      | (simp only [List.append_eq, List.cons_append, List.nil_append]))
  all_goals first | (exact RetQ.A [] (by exact ⟨rfl, rfl⟩)) | (exfalso; simp [hw] at *; omega)
end Go.Proofs.Ytpdegeknhapgmaa

namespace Go.Proofs.Ytpdegeknhapgmaa
set_option linter.unusedVariables false
set_option linter.unusedSimpArgs false
set_option maxHeartbeats 8000000
open Go.RowKit
set_option maxRecDepth 100000
def mayM (m : Msg) : Bool := match m.kind.toNat with
  | 1 => mayAsk m && noneM (bareAsk m)
  | 2 => mayEnt m && noneM (bareEnt m)
  | 3 => mayHave m && noneM (bareHave m)
  | 4 => mayCfg m.cfg && noneM (bareCfg m)
  | 5 => mayWhole m && noneM (bareWhole m)
  | 6 => mayAsk m && noneM (bareAsk m)
  | _ => false
theorem kind_cases (k : UInt8) : k.toNat = 1 ∨ k.toNat = 2 ∨ k.toNat = 3 ∨ k.toNat = 4 ∨ k.toNat = 5 ∨ k.toNat = 6 ∨ (k.toNat = 0 ∨ 7 ≤ k.toNat) := by omega
theorem mayG_ac (f1 f2 f3 f4 : Nat) (m mb : Msg) (x : Bool) (hof : AC Try.prog 53 [.ag (eG m)] [] (fun v bs => v = .tu [.ag [fnv f1, fnv f2, fnv f3, fnv f4], B true] ∧ bs = []))
    (hmay : AC Try.prog f1 [.ag (eG m)] [] (fun v bs => v = B x ∧ bs = [])) (hbare : AC Try.prog f2 [.ag (eG m)] [] (fun v bs => v = .ag (eG mb) ∧ bs = [])) :
    AC Try.prog 24 [.ag (eG m)] [] (fun v bs => v = B (x && noneM mb) ∧ bs = []) := by
  refine AC.N Try.func24 Try.ntmps24 ?_
  intro X
  simp only [nx, Nat.reduceAdd, Nat.reduceSub, BEq.rfl]
  repeat' (first
    | ((first
    | ((with_reducible apply AP.k_any); first
             | refine AP.S ?_
             | (refine AP.Y ?_; dsimp only) | refine AP.G (fun hg => ?_) (fun hg => ?_)
      )
    | ((with_reducible apply AP.k_any); refine AP.C (hof) ?_)
    | ((with_reducible apply AP.k_any); refine ap_callX rfl rfl (fn := f1) rfl (hmay) (by (repeat' (first | exact PasC.nil | apply PasC.nil | apply PasC.cons | apply PasV.leaf rfl | apply PasV.nl | apply PasV.bp rfl | apply PasV.lend rfl rfl rfl | apply PasV.lend rfl rfl (ro_B _) | apply PasV.lend rfl rfl (ro_M _) | apply PasV.lend rfl rfl (ro_E _ _) | apply PasV.lend rfl rfl (ro_I _) | apply PasV.mv rfl | apply PasV.ag | apply PasV.fn | exact PasV.fs | apply PasV.any))) rfl rfl ?_)
    | ((with_reducible apply AP.k_any); refine ap_callX rfl rfl (fn := f2) rfl (hbare) (by (repeat' (first | exact PasC.nil | apply PasC.nil | apply PasC.cons | apply PasV.leaf rfl | apply PasV.nl | apply PasV.bp rfl | apply PasV.lend rfl rfl rfl | apply PasV.lend rfl rfl (ro_B _) | apply PasV.lend rfl rfl (ro_M _) | apply PasV.lend rfl rfl (ro_E _ _) | apply PasV.lend rfl rfl (ro_I _) | apply PasV.mv rfl | apply PasV.ag | apply PasV.fn | exact PasV.fs | apply PasV.any))) rfl rfl ?_)
    | ((with_reducible apply AP.k_any); refine AP.C (none_ac mb) ?_)
    )
      <;> (try simp only [nx, Nat.reduceAdd, Nat.reduceSub, BEq.rfl]))
    | ((with_reducible apply AP.k_nil); first
        | (refine AP.nil (hQ' _ ?_); clear hQ' Q')
        | refine AP.nil ?_)
    | ((with_reducible apply CP.k_reg); refine cp_regG fun Q' hQ' => ?_)
      | (with_reducible apply CP.k_reg1; refine cp_region ?_)
      | ((with_reducible apply CP.k_cond); first | refine cp_condT rfl ?_ | refine cp_condF rfl ?_ | refine cp_cond rfl (fun hc => ?_) (fun hc => ?_))
      | refine CP.go ?_
      | (simp only [List.append_eq, List.cons_append, List.nil_append]))
  all_goals (refine RetQ.B [] ?_; (try dsimp only [resV, List.getD_cons_succ, List.getD_cons_zero]); ((refine ⟨?_, rfl⟩; simp at *; simp [*])))
theorem may_no (m : Msg) (h : m.kind.toNat = 0 ∨ 7 ≤ m.kind.toNat) : mayM m = false := by
  unfold mayM
  split <;> first | omega | rfl
theorem mayMsg_ac (m : Msg) (h1 : m.entries.length ≤ 100000000) (h2 : m.cfg.members.length ≤ 100000000) : AC Try.prog 24 [.ag (eG m)] [] (fun v bs => v = B (mayM m) ∧ bs = []) := by
  rcases kind_cases m.kind with h | h | h | h | h | h | h
  · have := mayG_ac _ _ _ _ m _ _ (of1_ac m h) (kmay1_ac m) (kbare2_ac m)
    rwa [show mayM m = (mayAsk m && noneM (bareAsk m)) from by simp only [mayM, h]]
  · have := mayG_ac _ _ _ _ m _ _ (of2_ac m h) (emay1_ac m h1) (ebare2_ac m)
    rwa [show mayM m = (mayEnt m && noneM (bareEnt m)) from by simp only [mayM, h]]
  · have := mayG_ac _ _ _ _ m _ _ (of3_ac m h) (kmay5_ac m) (kbare6_ac m)
    rwa [show mayM m = (mayHave m && noneM (bareHave m)) from by simp only [mayM, h]]
  · have := mayG_ac _ _ _ _ m _ _ (of4_ac m h) (kmay9_ac m h2) (kbare10_ac m)
    rwa [show mayM m = (mayCfg m.cfg && noneM (bareCfg m)) from by simp only [mayM, h]]
  · have := mayG_ac _ _ _ _ m _ _ (of5_ac m h) (kmay13_ac m) (kbare14_ac m)
    rwa [show mayM m = (mayWhole m && noneM (bareWhole m)) from by simp only [mayM, h]]
  · have := mayG_ac _ _ _ _ m _ _ (of6_ac m h) (kmay1_ac m) (kbare2_ac m)
    rwa [show mayM m = (mayAsk m && noneM (bareAsk m)) from by simp only [mayM, h]]
  · rw [may_no m h]
    refine AC.N Try.func24 Try.ntmps24 ?_
    intro X
    simp only [nx, Nat.reduceAdd, Nat.reduceSub, BEq.rfl]
    repeat' (first
      | ((first
      | ((with_reducible apply AP.k_any); first
               | refine AP.S ?_
               | (refine AP.Y ?_; dsimp only) | refine AP.G (fun hg => ?_) (fun hg => ?_)
        )
      | ((with_reducible apply AP.k_any); refine AP.C (ofNo_ac m h) ?_)
      )
        <;> (try simp only [nx, Nat.reduceAdd, Nat.reduceSub, BEq.rfl]))
      | ((with_reducible apply AP.k_nil); first
          | (refine AP.nil (hQ' _ ?_); clear hQ' Q')
          | refine AP.nil ?_)
      | ((with_reducible apply CP.k_reg); refine cp_regG fun Q' hQ' => ?_)
        | (with_reducible apply CP.k_reg1; refine cp_region ?_)
        | ((with_reducible apply CP.k_cond); first | refine cp_condT rfl ?_ | refine cp_condF rfl ?_ | refine cp_cond rfl (fun hc => ?_) (fun hc => ?_))
        | refine CP.go ?_
        | (simp only [List.append_eq, List.cons_append, List.nil_append]))
    all_goals (refine RetQ.B [] ?_; (try dsimp only [resV, List.getD_cons_succ, List.getD_cons_zero]); (exact ⟨rfl, rfl⟩))
/-! written down -/
def putAsk (st : Bool × List UInt8) (m : Msg) : Bool × List UInt8 := addS (addS (addS (addS st (intS m.client)) (intS m.id)) (putS m.body.length 4)) m.body
def putHave (st : Bool × List UInt8) (m : Msg) : Bool × List UInt8 := addS (addS st (intS m.have_)) (intS m.done)
def putWhole (st : Bool × List UInt8) (m : Msg) : Bool × List UInt8 := addS st (intS m.since)
def putEnt (st : Bool × List UInt8) (m : Msg) : Bool × List UInt8 := m.entries.foldl putR (addS (addS (addS st (intS m.upto)) (intS m.frm)) (intS m.entries.length))
theorem kput3_ac (st : Bool × List UInt8) (m : Msg) (hst : st.2.length ≤ 65536) (hb : m.body.length ≤ 100000000) :
    AC Try.prog 95 [.bp 0 0 0, .ag (eG m)] [wB st] (fun v bs => v = .tu [] ∧ bs = [wB (putAsk st m)]) := by
  have h1 := addS_len (st := st) (b := intS m.client) hst
  have h2 := addS_len (b := intS m.id) h1
  refine AC.N Try.func95 Try.ntmps95 ?_
  intro X
  simp only [nx, Nat.reduceAdd, Nat.reduceSub, BEq.rfl]
  repeat' (first
    | ((first
    | ((with_reducible apply AP.k_any); first
             | refine AP.S ?_
      )
    
    )
      <;> (try simp only [nx, Nat.reduceAdd, Nat.reduceSub, BEq.rfl]))
    | ((with_reducible apply AP.k_nil); first
        | (refine AP.nil (hQ' _ ?_); clear hQ' Q')
        | refine AP.nil ?_)
    | ((with_reducible apply CP.k_reg); refine cp_regG fun Q' hQ' => ?_)
      | (with_reducible apply CP.k_reg1; refine cp_region ?_)
      | ((with_reducible apply CP.k_cond); first | refine cp_condT rfl ?_ | refine cp_condF rfl ?_ | refine cp_cond rfl (fun hc => ?_) (fun hc => ?_))
      | refine CP.go ?_
      | (simp only [List.append_eq, List.cons_append, List.nil_append]))
  refine CP.gh gh_slot ?_
  simp only [nx, Nat.reduceAdd, Nat.reduceSub, BEq.rfl]
  repeat' (first
    | ((first
    | ((with_reducible apply AP.k_any); first
             | refine AP.S ?_
      )
    | ((with_reducible apply AP.k_any); refine AP.CB [(0, 0)] 0 (wint_ac st m.client hst) ?_)
    | ((with_reducible apply AP.k_any); refine AP.CB [(0, 0)] 0 (wint_ac _ m.id h1) ?_)
    | ((with_reducible apply AP.k_any); refine AP.CB [(0, 0)] 0 (wbytes_ac _ m.body h2 hb) ?_)
    | ((with_reducible apply DW.k_any); first
                | refine DW.R ?_ | refine DW.R' ?_ | refine DW.W ?_ | refine DW.W' ?_
                | (refine DW.known rfl ?_; (with_reducible first | apply DW.st 2 | apply DW.stN 2); (iterate 2 (focus (simp only [ft, nm, Nat.reduceAdd, Nat.reduceBEq, List.getElem?_cons_zero, List.getElem?_cons_succ]; exact rfl))); (focus (intro X V; simp only [ft, nm, Nat.reduceAdd, Nat.reduceBEq]; (try (refine AP.Y ?_; dsimp only)); (first | ((with_reducible apply AP.k_any); refine AP.CB [(0, 0)] 0 (wint_ac st m.client hst) ?_) | ((with_reducible apply AP.k_any); refine AP.CB [(0, 0)] 0 (wint_ac _ m.id h1) ?_) | ((with_reducible apply AP.k_any); refine AP.CB [(0, 0)] 0 (wbytes_ac _ m.body h2 hb) ?_) | fail); (try simp only [nx, Nat.reduceAdd, Nat.reduceSub, BEq.rfl]); refine AP.nil ?_; (first | refine ⟨trivial, rfl, ?_⟩ | refine ⟨rfl, rfl, ?_⟩); (repeat' (first | exact Mg.nil | apply Mg.keep rfl | apply Mg.take rfl)); done)); (focus (refine Exists.intro (fun _ => 0) ?_; apply Exists.intro; (repeat' (first | exact Mg.nil | apply Mg.keep rfl | apply Mg.take rfl)); done)))
                | ((fail_if_success refine DW.known rfl ?_); refine DW.G (fun hg => ?_) (fun hg => ?_))
    )
    )
      <;> (try simp only [nx, Nat.reduceAdd, Nat.reduceSub, BEq.rfl]))
    | ((with_reducible apply AP.k_nil); first
        | (refine AP.nil (hQ' _ ?_); clear hQ' Q')
        | refine AP.nil ?_)
    | ((with_reducible apply CP.k_drw); refine cp_drwX fun Q' hQ' => ?_)
    | ((with_reducible apply CP.k_drw1); refine cp_drawX ?_)
    | ((with_reducible apply DW.k_nil); refine DW.nl ?_; first | (refine hQ' _ ?_; clear hQ' Q') | skip)
    | ((with_reducible apply CP.k_reg); refine cp_regG fun Q' hQ' => ?_)
      | (with_reducible apply CP.k_reg1; refine cp_region ?_)
      | ((with_reducible apply CP.k_cond); first | refine cp_condT rfl ?_ | refine cp_condF rfl ?_ | refine cp_cond rfl (fun hc => ?_) (fun hc => ?_))
      | refine CP.go ?_
      | (simp only [List.append_eq, List.cons_append, List.nil_append]))
  (refine RetQ.B [(0, 0)] ?_; (try dsimp only [resV, List.getD_cons_succ, List.getD_cons_zero]); (exact ⟨rfl, rfl⟩))
end Go.Proofs.Ytpdegeknhapgmaa

namespace Go.Proofs.Ytpdegeknhapgmaa
set_option linter.unusedVariables false
set_option linter.unusedSimpArgs false
set_option maxHeartbeats 8000000
open Go.RowKit
set_option maxRecDepth 100000
theorem kput7_ac (st : Bool × List UInt8) (m : Msg) (hst : st.2.length ≤ 65536) :
    AC Try.prog 100 [.bp 0 0 0, .ag (eG m)] [wB st] (fun v bs => v = .tu [] ∧ bs = [wB (putHave st m)]) := by
  have h1 := addS_len (st := st) (b := intS m.have_) hst
  refine AC.N Try.func100 Try.ntmps100 ?_
  intro X
  simp only [nx, Nat.reduceAdd, Nat.reduceSub, BEq.rfl]
  repeat' (first
    | ((first
    | ((with_reducible apply AP.k_any); first
             | refine AP.S ?_
      )
    | ((with_reducible apply AP.k_any); refine AP.CB [(0, 0)] 0 (wint_ac st m.have_ hst) ?_)
    | ((with_reducible apply AP.k_any); refine AP.CB [(0, 0)] 0 (wint_ac _ m.done h1) ?_)
    | ((with_reducible apply DW.k_any); first
                | refine DW.R ?_ | refine DW.R' ?_ | refine DW.W ?_ | refine DW.W' ?_
                | (refine DW.known rfl ?_; (with_reducible first | apply DW.st 2 | apply DW.stN 2); (iterate 2 (focus (simp only [ft, nm, Nat.reduceAdd, Nat.reduceBEq, List.getElem?_cons_zero, List.getElem?_cons_succ]; exact rfl))); (focus (intro X V; simp only [ft, nm, Nat.reduceAdd, Nat.reduceBEq]; (try (refine AP.Y ?_; dsimp only)); (first | ((with_reducible apply AP.k_any); refine AP.CB [(0, 0)] 0 (wint_ac st m.have_ hst) ?_) | ((with_reducible apply AP.k_any); refine AP.CB [(0, 0)] 0 (wint_ac _ m.done h1) ?_) | fail); (try simp only [nx, Nat.reduceAdd, Nat.reduceSub, BEq.rfl]); refine AP.nil ?_; (first | refine ⟨trivial, rfl, ?_⟩ | refine ⟨rfl, rfl, ?_⟩); (repeat' (first | exact Mg.nil | apply Mg.keep rfl | apply Mg.take rfl)); done)); (focus (refine Exists.intro (fun _ => 0) ?_; apply Exists.intro; (repeat' (first | exact Mg.nil | apply Mg.keep rfl | apply Mg.take rfl)); done)))
                | ((fail_if_success refine DW.known rfl ?_); refine DW.G (fun hg => ?_) (fun hg => ?_))
    )
    )
      <;> (try simp only [nx, Nat.reduceAdd, Nat.reduceSub, BEq.rfl]))
    | ((with_reducible apply AP.k_nil); first
        | (refine AP.nil (hQ' _ ?_); clear hQ' Q')
        | refine AP.nil ?_)
    | ((with_reducible apply CP.k_drw); refine cp_drwX fun Q' hQ' => ?_)
    | ((with_reducible apply CP.k_drw1); refine cp_drawX ?_)
    | ((with_reducible apply DW.k_nil); refine DW.nl ?_; first | (refine hQ' _ ?_; clear hQ' Q') | skip)
    | ((with_reducible apply CP.k_reg); refine cp_regG fun Q' hQ' => ?_)
      | (with_reducible apply CP.k_reg1; refine cp_region ?_)
      | ((with_reducible apply CP.k_cond); first | refine cp_condT rfl ?_ | refine cp_condF rfl ?_ | refine cp_cond rfl (fun hc => ?_) (fun hc => ?_))
      | refine CP.go ?_
      | (simp only [List.append_eq, List.cons_append, List.nil_append]))
  (refine RetQ.B [(0, 0)] ?_; (try dsimp only [resV, List.getD_cons_succ, List.getD_cons_zero]); (exact ⟨rfl, rfl⟩))
theorem kput11_ac (st : Bool × List UInt8) (m : Msg) (hst : st.2.length ≤ 65536) (hl : m.cfg.members.length ≤ 100000000) :
    AC Try.prog 104 [.bp 0 0 0, .ag (eG m)] [wB st] (fun v bs => v = .tu [] ∧ bs = [wB (putC st m.cfg)]) := by
  refine AC.N Try.func104 Try.ntmps104 ?_
  intro X
  simp only [nx, Nat.reduceAdd, Nat.reduceSub, BEq.rfl]
  repeat' (first
    | ((first
    | ((with_reducible apply AP.k_any); first
             | refine AP.S ?_
      )
    | ((with_reducible apply AP.k_any); refine AP.CB [(0, 0)] 0 (putConfig_ac st m.cfg hst hl) ?_)
    )
      <;> (try simp only [nx, Nat.reduceAdd, Nat.reduceSub, BEq.rfl]))
    | ((with_reducible apply AP.k_nil); first
        | (refine AP.nil (hQ' _ ?_); clear hQ' Q')
        | refine AP.nil ?_)
    | ((with_reducible apply CP.k_reg); refine cp_regG fun Q' hQ' => ?_)
      | (with_reducible apply CP.k_reg1; refine cp_region ?_)
      | ((with_reducible apply CP.k_cond); first | refine cp_condT rfl ?_ | refine cp_condF rfl ?_ | refine cp_cond rfl (fun hc => ?_) (fun hc => ?_))
      | refine CP.go ?_
      | (simp only [List.append_eq, List.cons_append, List.nil_append]))
  (refine RetQ.B [(0, 0)] ?_; (try dsimp only [resV, List.getD_cons_succ, List.getD_cons_zero]); (exact ⟨rfl, rfl⟩))
theorem kput15_ac (st : Bool × List UInt8) (m : Msg) (hst : st.2.length ≤ 65536) :
    AC Try.prog 108 [.bp 0 0 0, .ag (eG m)] [wB st] (fun v bs => v = .tu [] ∧ bs = [wB (putWhole st m)]) := by
  refine AC.N Try.func108 Try.ntmps108 ?_
  intro X
  simp only [nx, Nat.reduceAdd, Nat.reduceSub, BEq.rfl]
  repeat' (first
    | ((first
    | ((with_reducible apply AP.k_any); first
             | refine AP.S ?_
      )
    | ((with_reducible apply AP.k_any); refine AP.CB [(0, 0)] 0 (wint_ac st m.since hst) ?_)
    )
      <;> (try simp only [nx, Nat.reduceAdd, Nat.reduceSub, BEq.rfl]))
    | ((with_reducible apply AP.k_nil); first
        | (refine AP.nil (hQ' _ ?_); clear hQ' Q')
        | refine AP.nil ?_)
    | ((with_reducible apply CP.k_reg); refine cp_regG fun Q' hQ' => ?_)
      | (with_reducible apply CP.k_reg1; refine cp_region ?_)
      | ((with_reducible apply CP.k_cond); first | refine cp_condT rfl ?_ | refine cp_condF rfl ?_ | refine cp_cond rfl (fun hc => ?_) (fun hc => ?_))
      | refine CP.go ?_
      | (simp only [List.append_eq, List.cons_append, List.nil_append]))
  (refine RetQ.B [(0, 0)] ?_; (try dsimp only [resV, List.getD_cons_succ, List.getD_cons_zero]); (exact ⟨rfl, rfl⟩))
theorem foldR_len : ∀ {l : List Entry} {st : Bool × List UInt8}, st.2.length ≤ 65536 → (l.foldl putR st).2.length ≤ 65536
  | [], _, h => h
  | e :: l, st, h => foldR_len (l := l) (addS_len (addS_len (addS_len (addS_len (addS_len h)))))
theorem eput3_ac (st : Bool × List UInt8) (m : Msg) (hst : st.2.length ≤ 65536) (hl : m.entries.length ≤ 100000000) (hb : ∀ e ∈ m.entries, e.body.length ≤ 100000000) :
    AC Try.prog 121 [.bp 0 0 0, .ag (eG m)] [wB st] (fun v bs => v = .tu [] ∧ bs = [wB (putEnt st m)]) := by
  have h1 := addS_len (st := st) (b := intS m.upto) hst
  have h2 := addS_len (b := intS m.frm) h1
  have h3 := addS_len (b := intS m.entries.length) h2
  refine AC.N Try.func121 Try.ntmps121 ?_
  intro X
  simp only [nx, Nat.reduceAdd, Nat.reduceSub, BEq.rfl]
  repeat' (first
    | ((first
    | ((with_reducible apply AP.k_any); first
             | refine AP.S ?_
             | refine AP.E ?_
             | refine AP.T ?_
      )
    | ((with_reducible apply AP.k_any); refine AP.CB [(0, 0)] 0 (wint_ac st m.upto hst) ?_)
    | ((with_reducible apply AP.k_any); refine AP.CB [(0, 0)] 0 (wint_ac _ m.frm h1) ?_)
    | ((with_reducible apply AP.k_any); refine AP.CB [(0, 0)] 0 (wint_ac _ (m.entries.length : Int) h2) ?_)
    | ((with_reducible apply DW.k_any); first
                | refine DW.R ?_ | refine DW.R' ?_ | refine DW.W ?_ | refine DW.W' ?_
                | (refine DW.known rfl ?_; (with_reducible first | apply DW.st 2 | apply DW.stN 2); (iterate 2 (focus (simp only [ft, nm, Nat.reduceAdd, Nat.reduceBEq, List.getElem?_cons_zero, List.getElem?_cons_succ]; exact rfl))); (focus (intro X V; simp only [ft, nm, Nat.reduceAdd, Nat.reduceBEq]; (try (refine AP.Y ?_; dsimp only)); (first | ((with_reducible apply AP.k_any); refine AP.CB [(0, 0)] 0 (wint_ac st m.upto hst) ?_) | ((with_reducible apply AP.k_any); refine AP.CB [(0, 0)] 0 (wint_ac _ m.frm h1) ?_) | ((with_reducible apply AP.k_any); refine AP.CB [(0, 0)] 0 (wint_ac _ (m.entries.length : Int) h2) ?_) | fail); (try simp only [nx, Nat.reduceAdd, Nat.reduceSub, BEq.rfl]); refine AP.nil ?_; (first | refine ⟨trivial, rfl, ?_⟩ | refine ⟨rfl, rfl, ?_⟩); (repeat' (first | exact Mg.nil | apply Mg.keep rfl | apply Mg.take rfl)); done)); (focus (refine Exists.intro (fun _ => 0) ?_; apply Exists.intro; (repeat' (first | exact Mg.nil | apply Mg.keep rfl | apply Mg.take rfl)); done)))
                | ((fail_if_success refine DW.known rfl ?_); refine DW.G (fun hg => ?_) (fun hg => ?_))
    )
    )
      <;> (try simp only [nx, Nat.reduceAdd, Nat.reduceSub, BEq.rfl]))
    | ((with_reducible apply AP.k_nil); first
        | (refine AP.nil (hQ' _ ?_); clear hQ' Q')
        | refine AP.nil ?_)
    | ((with_reducible apply CP.k_drw); refine cp_drwX fun Q' hQ' => ?_)
    | ((with_reducible apply CP.k_drw1); refine cp_drawX ?_)
    | ((with_reducible apply DW.k_nil); refine DW.nl ?_; first | (refine hQ' _ ?_; clear hQ' Q') | skip)
    | ((with_reducible apply CP.k_reg); refine cp_regG fun Q' hQ' => ?_)
      | (with_reducible apply CP.k_reg1; refine cp_region ?_)
      | ((with_reducible apply CP.k_cond); first | refine cp_condT rfl ?_ | refine cp_condF rfl ?_ | refine cp_cond rfl (fun hc => ?_) (fun hc => ?_))
      | refine CP.go ?_
      | (simp only [List.append_eq, List.cons_append, List.nil_append]))
  refine CP.gh gh_slot ?_
  simp only [nx, Nat.reduceAdd, Nat.reduceSub, BEq.rfl]
  generalize hS : addS (addS (addS st (intS m.upto)) (intS m.frm)) (intS m.entries.length) = S0 at h3
  have hput : putEnt st m = m.entries.foldl putR S0 := by rw [← hS]; rfl
  rw [hput]
  refine cp_loopS [5, 20, 21, 22, 23, 24, 25, 26, 27] (fun a : Nat × Nat × Nat => m.entries.length - a.1) (fun a => a.1 ≤ m.entries.length) (fun a => [(20, I a.1), (18, es none none m.entries), (19, I m.entries.length)]) (fun a => [(0, ⟨0, .c tW [B true, B ((m.entries.take a.1).foldl putR S0).1, .hd 1 a.2.1]⟩), (1, ⟨a.2.1, .r tU 1 (((m.entries.take a.1).foldl putR S0).2.map eB)⟩), (3, ⟨a.2.2, .x⟩)]) (0, 4, 0) (Nat.zero_le _) (by exact Gh.W) ?_
  rintro ⟨k, u, v⟩ hk
  simp only [setT, deT, setB, List.set_cons_succ, List.set_cons_zero]
  dsimp only at hk
  by_cases hlt : k < m.entries.length
  · have hw : IntKind.i64.wrap ((k : Int) + 1) = ((k + 1 : Nat) : Int) := wrap_i64 (by omega) (by omega)
    have hs : (m.entries.take (k + 1)).foldl putR S0 = putR ((m.entries.take k).foldl putR S0) m.entries[k] := by rw [List.take_succ_eq_append_getElem hlt, List.foldl_append]; rfl
    have hput := putRest_ac ((m.entries.take k).foldl putR S0) m.entries[k] (foldR_len h3) (hb _ (List.getElem_mem hlt))
    rw [← hs] at hput
    repeat' (first
      | ((first
      | ((with_reducible apply AP.k_any); first
               | refine AP.S ?_
               | refine AP.E ?_
               | refine AP.T ?_
        )
      | ((with_reducible apply AP.k_any); refine AP.CB [(0, 0)] 0 (hput) ?_)
      | ((with_reducible apply DW.k_any); first
                  | refine DW.R ?_ | refine DW.R' ?_ | refine DW.W ?_ | refine DW.W' ?_
                  | (refine DW.known rfl ?_; (with_reducible first | apply DW.st 2 | apply DW.stN 2); (iterate 2 (focus (simp only [ft, nm, Nat.reduceAdd, Nat.reduceBEq, List.getElem?_cons_zero, List.getElem?_cons_succ]; exact rfl))); (focus (intro X V; simp only [ft, nm, Nat.reduceAdd, Nat.reduceBEq]; (try (refine AP.Y ?_; dsimp only)); (first | ((with_reducible apply AP.k_any); refine AP.CB [(0, 0)] 0 (hput) ?_) | fail); (try simp only [nx, Nat.reduceAdd, Nat.reduceSub, BEq.rfl]); refine AP.nil ?_; (first | refine ⟨trivial, rfl, ?_⟩ | refine ⟨rfl, rfl, ?_⟩); (repeat' (first | exact Mg.nil | apply Mg.keep rfl | apply Mg.take rfl)); done)); (focus (refine Exists.intro (fun _ => 0) ?_; apply Exists.intro; (repeat' (first | exact Mg.nil | apply Mg.keep rfl | apply Mg.take rfl)); done)))
                  | ((fail_if_success refine DW.known rfl ?_); refine DW.G (fun hg => ?_) (fun hg => ?_))
      )
      )
        <;> (try simp only [nx, Nat.reduceAdd, Nat.reduceSub, BEq.rfl]))
      | ((with_reducible apply AP.k_nil); first
          | (refine AP.nil (hQ' _ ?_); clear hQ' Q')
          | refine AP.nil ?_)
      | ((with_reducible apply CP.k_drw); refine cp_drwX fun Q' hQ' => ?_)
      | ((with_reducible apply CP.k_drw1); refine cp_drawX ?_)
      | ((with_reducible apply DW.k_nil); refine DW.nl ?_; first | (refine hQ' _ ?_; clear hQ' Q') | skip)
      | ((with_reducible apply CP.k_reg); refine cp_regG fun Q' hQ' => ?_)
        | (with_reducible apply CP.k_reg1; refine cp_region ?_)
        | ((with_reducible apply CP.k_cond); first | refine cp_condT rfl ?_ | refine cp_condF rfl ?_ | refine cp_cond rfl (fun hc => ?_) (fun hc => ?_))
        | refine CP.go ?_
        | (simp only [List.append_eq, List.cons_append, List.nil_append]))
    · simp only [hw]
      exact ⟨(k + 1, u + 1, v + 1), by (dsimp only; omega), by (dsimp only; omega), by exact Gh.W⟩
    · exfalso; simp at *; omega
  · obtain rfl : k = m.entries.length := by omega
    rw [List.take_length]
    repeat' (first
      | ((first
      | ((with_reducible apply AP.k_any); first
               | refine AP.S ?_
               | refine AP.E ?_
               | refine AP.T ?_
        )
      
      | ((with_reducible apply DW.k_any); first
                  | refine DW.R ?_ | refine DW.R' ?_ | refine DW.W ?_ | refine DW.W' ?_
                  | (refine DW.known rfl ?_; (with_reducible first | apply DW.st 2 | apply DW.stN 2); (iterate 2 (focus (simp only [ft, nm, Nat.reduceAdd, Nat.reduceBEq, List.getElem?_cons_zero, List.getElem?_cons_succ]; exact rfl))); (focus (intro X V; simp only [ft, nm, Nat.reduceAdd, Nat.reduceBEq]; (try (refine AP.Y ?_; dsimp only)); (first  | fail); (try simp only [nx, Nat.reduceAdd, Nat.reduceSub, BEq.rfl]); refine AP.nil ?_; (first | refine ⟨trivial, rfl, ?_⟩ | refine ⟨rfl, rfl, ?_⟩); (repeat' (first | exact Mg.nil | apply Mg.keep rfl | apply Mg.take rfl)); done)); (focus (refine Exists.intro (fun _ => 0) ?_; apply Exists.intro; (repeat' (first | exact Mg.nil | apply Mg.keep rfl | apply Mg.take rfl)); done)))
                  | ((fail_if_success refine DW.known rfl ?_); refine DW.G (fun hg => ?_) (fun hg => ?_))
      )
      )
        <;> (try simp only [nx, Nat.reduceAdd, Nat.reduceSub, BEq.rfl]))
      | ((with_reducible apply AP.k_nil); first
          | (refine AP.nil (hQ' _ ?_); clear hQ' Q')
          | refine AP.nil ?_)
      | ((with_reducible apply CP.k_drw); refine cp_drwX fun Q' hQ' => ?_)
      | ((with_reducible apply CP.k_drw1); refine cp_drawX ?_)
      | ((with_reducible apply DW.k_nil); refine DW.nl ?_; first | (refine hQ' _ ?_; clear hQ' Q') | skip)
      | ((with_reducible apply CP.k_reg); refine cp_regG fun Q' hQ' => ?_)
        | (with_reducible apply CP.k_reg1; refine cp_region ?_)
        | ((with_reducible apply CP.k_cond); first | refine cp_condT rfl ?_ | refine cp_condF rfl ?_ | refine cp_cond rfl (fun hc => ?_) (fun hc => ?_))
        | refine CP.go ?_
        | (simp only [List.append_eq, List.cons_append, List.nil_append]))
    all_goals first
      | (exfalso; simp at *; done)
      | (exfalso; simp at *; omega)
      | (refine RetQ.B [(0, 0)] ?_; (try dsimp only [resV, List.getD_cons_succ, List.getD_cons_zero]); (exact ⟨rfl, rfl⟩))
end Go.Proofs.Ytpdegeknhapgmaa

namespace Go.Proofs.Ytpdegeknhapgmaa
set_option linter.unusedVariables false
set_option linter.unusedSimpArgs false
set_option maxHeartbeats 8000000
open Go.RowKit
set_option maxRecDepth 100000
theorem putS_take (x : Nat) : ∀ (n i : Nat), i < n → (putS x n).take (i + 1) = (putS x n).take i ++ [UInt8.ofNat (x / 256 ^ (n - 1 - i) % 256)]
  | n + 1, 0, _ => by simp [putS]
  | n + 1, i + 1, h => by
    have := putS_take x n i (by omega)
    simp only [putS, List.take_succ_cons, List.cons_append]
    rw [this, show n + 1 - 1 - (i + 1) = n - 1 - i by omega]
theorem rput_ac (x n : Nat) (hn : n ≤ 8) (hx : x < 18446744073709551616) :
    AC Try.prog 76 [.sc (.int .u64 (x : Int)), I n] [] (fun v bs' => v = bs (some tU) (putS x n) ∧ bs' = []) := by
  have hpl := putS_length x n
  refine AC.N Try.func76 Try.ntmps76 ?_
  intro X
  simp only [nx, Nat.reduceAdd, Nat.reduceSub, BEq.rfl]
  repeat' (first
    | ((first
    | ((with_reducible apply AP.k_any); first
             | refine AP.S ?_
      )
    
    )
      <;> (try simp only [nx, Nat.reduceAdd, Nat.reduceSub, BEq.rfl]))
    | ((with_reducible apply AP.k_nil); first
        | (refine AP.nil (hQ' _ ?_); clear hQ' Q')
        | refine AP.nil ?_)
    | ((with_reducible apply CP.k_reg); refine cp_regG fun Q' hQ' => ?_)
      | (with_reducible apply CP.k_reg1; refine cp_region ?_)
      | ((with_reducible apply CP.k_cond); first | refine cp_condT rfl ?_ | refine cp_condF rfl ?_ | refine cp_cond rfl (fun hc => ?_) (fun hc => ?_))
      | refine CP.go ?_
      | (simp only [List.append_eq, List.cons_append, List.nil_append]))
  refine CP.gh (gh_nil (t := 5) (e := tU) (k := 1) rfl) ?_
  simp only [nx, Nat.reduceAdd, Nat.reduceSub, BEq.rfl]
  refine CP.gh gh_slot ?_
  simp only [nx, Nat.reduceAdd, Nat.reduceSub, BEq.rfl]
  refine cp_loopS [5, 6, 7, 8, 9, 10, 11, 12, 13, 14, 15, 16, 17, 18, 19, 20, 21, 22, 23, 24, 25, 26, 27, 28, 29] (fun a : Nat × Nat × Nat => n - a.1) (fun a => a.1 ≤ n) (fun a => [(6, I a.1), (5, .hd 0 a.2.1)]) (fun a => [(0, ⟨a.2.1, .r tU 1 (((putS x n).take a.1).map eB)⟩), (1, ⟨a.2.2, .x⟩)]) (0, 1, 0) (Nat.zero_le _) (by exact Gh.W) ?_
  rintro ⟨i, u, v⟩ hi
  simp only [setT, deT, setB, List.set_cons_succ, List.set_cons_zero]
  dsimp only at hi
  by_cases hlt : i < n
  · have hw : IntKind.i64.wrap ((i : Int) + 1) = ((i + 1 : Nat) : Int) := wrap_i64 (by omega) (by omega)
    have hw1 : IntKind.i64.wrap ((n : Int) - 1) = ((n - 1 : Nat) : Int) := by rw [wrap_i64 (by omega) (by omega)]; omega
    have hlen : (((putS x n).take i).map eB).length + 1 ≤ 1000000000 := by simp; omega
    repeat' (first
      | ((first
      | ((with_reducible apply AP.k_any); first
               | refine AP.S ?_
        )
      
      )
        <;> (try simp only [nx, Nat.reduceAdd, Nat.reduceSub, BEq.rfl]))
      | ((with_reducible apply AP.k_nil); first
          | (refine AP.nil (hQ' _ ?_); clear hQ' Q')
          | refine AP.nil ?_)
      | ((with_reducible apply CP.k_reg); refine cp_regG fun Q' hQ' => ?_)
        | (with_reducible apply CP.k_reg1; refine cp_region ?_)
        | ((with_reducible apply CP.k_cond); first | refine cp_condT rfl ?_ | refine cp_condF rfl ?_ | refine cp_cond rfl (fun hc => ?_) (fun hc => ?_))
        | refine CP.go ?_
        | (simp only [List.append_eq, List.cons_append, List.nil_append]))
    · refine cp_loopS [7, 8, 16, 17, 18, 19, 20, 21, 22, 23] (fun k : Nat => n - 1 - k) (fun k => i ≤ k ∧ k ≤ n - 1) (fun k => [(7, .sc (.int .u64 ((x / 256 ^ (k - i) : Nat) : Int))), (8, I k)]) (fun _ => []) i ⟨Nat.le_refl _, by omega⟩ (by (simp only [Nat.sub_self, Nat.pow_zero, Nat.div_one]); exact Gh.W) ?_
      rintro k ⟨hk1, hk2⟩
      simp only [setT, deT, setB, List.set_cons_succ, List.set_cons_zero]
      by_cases hlk : k < n - 1
      · have hwk : IntKind.i64.wrap ((k : Int) + 1) = ((k + 1 : Nat) : Int) := wrap_i64 (by omega) (by omega)
        have hq : IntKind.u64.wrap (((x / 256 ^ (k - i) : Nat) : Int).tdiv 256) = ((x / 256 ^ (k + 1 - i) : Nat) : Int) := by
          have e1 : x / 256 ^ (k + 1 - i) = x / 256 ^ (k - i) / 256 := by rw [show k + 1 - i = (k - i) + 1 by omega, Nat.pow_succ, Nat.div_div_eq_div_mul]
          have e2 : x / 256 ^ (k - i) ≤ x := Nat.div_le_self _ _
          rw [e1, show (256 : Int) = ((256 : Nat) : Int) from rfl, ← Int.ofNat_tdiv]
          generalize x / 256 ^ (k - i) = y at e2
          simp [IntKind.wrap, IntKind.bits, IntKind.signed]; omega
        repeat' (first
          | ((first
          | ((with_reducible apply AP.k_any); first
                   | refine AP.S ?_
            )
          
          )
            <;> (try simp only [nx, Nat.reduceAdd, Nat.reduceSub, BEq.rfl]))
          | ((with_reducible apply AP.k_nil); first
              | (refine AP.nil (hQ' _ ?_); clear hQ' Q')
              | refine AP.nil ?_)
          | ((with_reducible apply CP.k_reg); refine cp_regG fun Q' hQ' => ?_)
            | (with_reducible apply CP.k_reg1; refine cp_region ?_)
            | ((with_reducible apply CP.k_cond); first | refine cp_condT rfl ?_ | refine cp_condF rfl ?_ | refine cp_cond rfl (fun hc => ?_) (fun hc => ?_))
            | refine CP.go ?_
            | (simp only [List.append_eq, List.cons_append, List.nil_append]))
        · simp only [hwk, hq]
          exact ⟨k + 1, by omega, ⟨by omega, by omega⟩, by exact Gh.W⟩
        · exfalso; simp [hw1] at *; omega
      · obtain rfl : k = n - 1 := by omega
        have hr : IntKind.u8.wrap (((x / 256 ^ (n - 1 - i) : Nat) : Int).tmod 256) = ((UInt8.ofNat (x / 256 ^ (n - 1 - i) % 256)).toNat : Int) := by
          rw [show (256 : Int) = ((256 : Nat) : Int) from rfl, ← Int.ofNat_tmod, UInt8.toNat_ofNat']
          simp [IntKind.wrap, IntKind.bits, IntKind.signed]
        repeat' (first
          | ((first
          | ((with_reducible apply AP.k_any); first
                   | refine AP.S ?_
            )
          
          )
            <;> (try simp only [nx, Nat.reduceAdd, Nat.reduceSub, BEq.rfl]))
          | ((with_reducible apply AP.k_nil); first
              | (refine AP.nil (hQ' _ ?_); clear hQ' Q')
              | refine AP.nil ?_)
          | ((with_reducible apply CP.k_reg); refine cp_regG fun Q' hQ' => ?_)
            | (with_reducible apply CP.k_reg1; refine cp_region ?_)
            | ((with_reducible apply CP.k_cond); first | refine cp_condT rfl ?_ | refine cp_condF rfl ?_ | refine cp_cond rfl (fun hc => ?_) (fun hc => ?_))
            | refine CP.go ?_
            | (simp only [List.append_eq, List.cons_append, List.nil_append]))
        · exfalso; simp [hw1] at *
        · simp only [hw, hr]
          refine ⟨(i + 1, u + 1, v + 1), by (dsimp only; omega), by (dsimp only; omega), ?_⟩
          dsimp only
          rw [putS_take x n i hlt, List.map_append, List.map_cons, List.map_nil]
          exact Gh.W
    · exfalso; simp at *; omega
  · obtain rfl : i = n := by omega
    rw [List.take_of_length_le (by omega)]
    repeat' (first
      | ((first
      | ((with_reducible apply AP.k_any); first
               | refine AP.S ?_
        )
      
      )
        <;> (try simp only [nx, Nat.reduceAdd, Nat.reduceSub, BEq.rfl]))
      | ((with_reducible apply AP.k_nil); first
          | (refine AP.nil (hQ' _ ?_); clear hQ' Q')
          | refine AP.nil ?_)
      | ((with_reducible apply CP.k_reg); refine cp_regG fun Q' hQ' => ?_)
        | (with_reducible apply CP.k_reg1; refine cp_region ?_)
        | ((with_reducible apply CP.k_cond); first | refine cp_condT rfl ?_ | refine cp_condF rfl ?_ | refine cp_cond rfl (fun hc => ?_) (fun hc => ?_))
        | refine CP.go ?_
        | (simp only [List.append_eq, List.cons_append, List.nil_append]))
    all_goals first
      | (exfalso; simp at *; done)
      | (exfalso; simp at *; omega)
      | (refine RetQ.B [] ?_; (try dsimp only [resV, List.getD_cons_succ, List.getD_cons_zero]); (exact ⟨rfl, rfl⟩))
end Go.Proofs.Ytpdegeknhapgmaa

namespace Go.Proofs.Ytpdegeknhapgmaa
set_option linter.unusedVariables false
set_option linter.unusedSimpArgs false
set_option maxHeartbeats 8000000
open Go.RowKit
set_option maxRecDepth 100000
theorem same_ac (a b : List UInt8) (ha : a.length ≤ 1000000000) :
    AC Try.prog 14 [bs none a, bs none b] [] (fun v bs => v = B (decide (a = b)) ∧ bs = []) := by
  refine AC.N Try.func14 Try.ntmps14 ?_
  intro X
  simp only [nx, Nat.reduceAdd, Nat.reduceSub, BEq.rfl]
  repeat' (first
    | ((first
    | ((with_reducible apply AP.k_any); first
             | refine AP.S ?_
             | refine AP.E ?_
             | (refine AP.V (fun c hnil => ?_); simp only [nz])
      )
    
    | ((with_reducible apply AQ.k_any); first
                    | refine AQ.S ?_
                    | refine AQ.E ?_
      )
    )
      <;> (try simp only [nx, Nat.reduceAdd, Nat.reduceSub, BEq.rfl]))
    | ((with_reducible apply AP.k_nil); first
        | (refine AP.nil (hQ' _ ?_); clear hQ' Q')
        | refine AP.nil ?_)
    | ((with_reducible apply AQ.k_nil); first | (refine AQ.nil (hQ' _ ?_); clear hQ' Q') | refine AQ.nil ?_)
    | ((with_reducible apply CP.k_drw); refine cp_drw (by kernel_rfl) (by kernel_rfl) fun Q' hQ' => ?_)
    | ((with_reducible apply CP.k_drw1); refine cp_draw (by kernel_rfl) (by kernel_rfl) ?_)
    | ((with_reducible apply CP.k_reg); refine cp_regG fun Q' hQ' => ?_)
      | (with_reducible apply CP.k_reg1; refine cp_region ?_)
      | ((with_reducible apply CP.k_cond); first | refine cp_condT rfl ?_ | refine cp_condF rfl ?_ | refine cp_cond rfl (fun hc => ?_) (fun hc => ?_))
      | refine CP.go ?_
      | (simp only [List.append_eq, List.cons_append, List.nil_append]))
  · (refine RetQ.B [] ?_; (try dsimp only [resV, List.getD_cons_succ, List.getD_cons_zero]); ((have h : ¬ a = b := by rintro rfl; simp at hc); exact ⟨by simp [h], rfl⟩))
  · have hl : a.length = b.length := by simp at hc; omega
    refine cp_loopW (fun n s => ∃ k : Nat, k ≤ a.length ∧ n = a.length - k ∧ a.take k = b.take k ∧ s = ⟨tm 26 [(0, bs none a), (1, bs none b), (4, B false), (5, I k)], []⟩) a.length ⟨tm 26 [(0, bs none a), (1, bs none b), (4, B false), (5, I (0 : Nat))], []⟩ (by simp only [tm, List.foldl_cons, List.foldl_nil, List.replicate_succ, List.replicate_zero, List.set_cons_succ, List.set_cons_zero, Nat.reduceAdd]; (refine ⟨?_, ?_⟩ <;> (try dsimp only) <;> (repeat' (first | exact Wk.nil | exact WkB.nil | apply Wk.same | apply Wk.de | apply Wk.nl | apply WkB.same | apply WkB.drop)))) ⟨0, by omega, by omega, by simp, rfl⟩ ?_
    rintro n s ⟨k, hk, rfl, he, rfl⟩
    simp only [tm, List.foldl_cons, List.foldl_nil, List.replicate_succ, List.replicate_zero, List.set_cons_succ, List.set_cons_zero, Nat.reduceAdd]
    by_cases hlt : k < a.length
    · have hx : (a.map eB)[k]? = some (eB a[k]) := by simp [hlt]
      have hy : (b.map eB)[k]? = some (eB (b[k]'(by omega))) := by simp [show k < b.length by omega]
      have hw : IntKind.i64.wrap ((k : Int) + 1) = ((k + 1 : Nat) : Int) := wrap_i64 (by omega) (by omega)
      repeat' (first
        | ((first
        | ((with_reducible apply AP.k_any); first
                 | refine AP.S ?_
                 | refine AP.E ?_
                 | (refine AP.V (fun c hnil => ?_); simp only [nz])
          )
        
        | ((with_reducible apply AQ.k_any); first
                        | refine AQ.S ?_
                        | refine AQ.E ?_
          )
        )
          <;> (try simp only [nx, Nat.reduceAdd, Nat.reduceSub, BEq.rfl]))
        | ((with_reducible apply AP.k_nil); first
            | (refine AP.nil (hQ' _ ?_); clear hQ' Q')
            | refine AP.nil ?_)
        | ((with_reducible apply AQ.k_nil); first | (refine AQ.nil (hQ' _ ?_); clear hQ' Q') | refine AQ.nil ?_)
        | ((with_reducible apply CP.k_drw); refine cp_drw (by kernel_rfl) (by kernel_rfl) fun Q' hQ' => ?_)
        | ((with_reducible apply CP.k_drw1); refine cp_draw (by kernel_rfl) (by kernel_rfl) ?_)
        | ((with_reducible apply CP.k_reg); refine cp_regG fun Q' hQ' => ?_)
          | (with_reducible apply CP.k_reg1; refine cp_region ?_)
          | ((with_reducible apply CP.k_cond); first | refine cp_condT rfl ?_ | refine cp_condF rfl ?_ | refine cp_cond rfl (fun hc => ?_) (fun hc => ?_))
          | refine CP.go ?_
          | (simp only [List.append_eq, List.cons_append, List.nil_append]))
      · (refine RetQ.B [] ?_; (try dsimp only [resV, List.getD_cons_succ, List.getD_cons_zero]); ((have h : ¬ a = b := by rintro rfl; simp at hc); exact ⟨by simp [h], rfl⟩))
      · simp only [hw]
        refine ⟨a.length - (k + 1), ⟨tm 26 [(0, bs none a), (1, bs none b), (4, B false), (5, I (k + 1 : Nat))], []⟩, by omega, (by simp only [tm, List.foldl_cons, List.foldl_nil, List.replicate_succ, List.replicate_zero, List.set_cons_succ, List.set_cons_zero, Nat.reduceAdd]; (refine ⟨?_, ?_⟩ <;> (try dsimp only) <;> (repeat' (first | exact Wk.nil | exact WkB.nil | apply Wk.same | apply Wk.de | apply Wk.nl | apply WkB.same | apply WkB.drop)))), k + 1, by omega, rfl, ?_, rfl⟩
        rename_i hc
        have : a[k] = b[k]'(by omega) := by
          simp at hc
          exact UInt8.toNat_inj.1 (by omega)
        rw [List.take_succ_eq_append_getElem hlt, List.take_succ_eq_append_getElem (by omega), he, this]
      · exfalso; simp at *; omega
    · have hk' : k = a.length := by omega
      have hab : a = b := by
        rw [hk', List.take_of_length_le (Nat.le_refl _), List.take_of_length_le (by omega)] at he; exact he
      subst hab
      repeat' (first
        | ((first
        | ((with_reducible apply AP.k_any); first
                 | refine AP.S ?_
                 | refine AP.E ?_
                 | (refine AP.V (fun c hnil => ?_); simp only [nz])
          )
        
        | ((with_reducible apply AQ.k_any); first
                        | refine AQ.S ?_
                        | refine AQ.E ?_
          )
        )
          <;> (try simp only [nx, Nat.reduceAdd, Nat.reduceSub, BEq.rfl]))
        | ((with_reducible apply AP.k_nil); first
            | (refine AP.nil (hQ' _ ?_); clear hQ' Q')
            | refine AP.nil ?_)
        | ((with_reducible apply AQ.k_nil); first | (refine AQ.nil (hQ' _ ?_); clear hQ' Q') | refine AQ.nil ?_)
        | ((with_reducible apply CP.k_drw); refine cp_drw (by kernel_rfl) (by kernel_rfl) fun Q' hQ' => ?_)
        | ((with_reducible apply CP.k_drw1); refine cp_draw (by kernel_rfl) (by kernel_rfl) ?_)
        | ((with_reducible apply CP.k_reg); refine cp_regG fun Q' hQ' => ?_)
          | (with_reducible apply CP.k_reg1; refine cp_region ?_)
          | ((with_reducible apply CP.k_cond); first | refine cp_condT rfl ?_ | refine cp_condF rfl ?_ | refine cp_cond rfl (fun hc => ?_) (fun hc => ?_))
          | refine CP.go ?_
          | (simp only [List.append_eq, List.cons_append, List.nil_append]))
      all_goals first
        | (exfalso; simp at *; omega)
        | (refine RetQ.B [] ?_; (try dsimp only [resV, List.getD_cons_succ, List.getD_cons_zero]); (exact ⟨by simp, rfl⟩))
theorem cat_ac (a b : List UInt8) (ha : a.length ≤ 100000000) (hb : b.length ≤ 100000000) :
    AC Try.prog 42 [bs none a, bs none b] [] (fun v bs' => v = bs (some tU) (a ++ b) ∧ bs' = []) := by
  refine AC.N Try.func42 Try.ntmps42 ?_
  intro X
  simp only [nx, Nat.reduceAdd, Nat.reduceSub, BEq.rfl]
  repeat' (first
    | ((first
    | ((with_reducible apply AP.k_any); first
             | refine AP.S ?_
      )
    
    
    )
      <;> (try simp only [nx, Nat.reduceAdd, Nat.reduceSub, BEq.rfl]))
    | ((with_reducible apply AP.k_nil); first
        | (refine AP.nil (hQ' _ ?_); clear hQ' Q')
        | refine AP.nil ?_)
    | ((with_reducible apply CP.k_reg); refine cp_regG fun Q' hQ' => ?_)
      | (with_reducible apply CP.k_reg1; refine cp_region ?_)
      | ((with_reducible apply CP.k_cond); first | refine cp_condT rfl ?_ | refine cp_condF rfl ?_ | refine cp_cond rfl (fun hc => ?_) (fun hc => ?_))
      | refine CP.go ?_
      | (simp only [List.append_eq, List.cons_append, List.nil_append]))
  (refine RetQ.B [] ?_; (try dsimp only [resV, List.getD_cons_succ, List.getD_cons_zero]); (exact ⟨by simp, rfl⟩))
theorem copy_ac (a : List UInt8) (ha : a.length ≤ 100000000) :
    AC Try.prog 26 [bs none a] [] (fun v bs' => v = bs (some tU) a ∧ bs' = []) := by
  refine AC.N Try.func26 Try.ntmps26 ?_
  intro X
  simp only [nx, Nat.reduceAdd, Nat.reduceSub, BEq.rfl]
  repeat' (first
    | ((first
    | ((with_reducible apply AP.k_any); first
             | refine AP.S ?_
      )
    | ((with_reducible apply AP.k_any); refine AP.C (cat_ac a [] ha (by simp)) ?_)
    
    )
      <;> (try simp only [nx, Nat.reduceAdd, Nat.reduceSub, BEq.rfl]))
    | ((with_reducible apply AP.k_nil); first
        | (refine AP.nil (hQ' _ ?_); clear hQ' Q')
        | refine AP.nil ?_)
    | ((with_reducible apply CP.k_reg); refine cp_regG fun Q' hQ' => ?_)
      | (with_reducible apply CP.k_reg1; refine cp_region ?_)
      | ((with_reducible apply CP.k_cond); first | refine cp_condT rfl ?_ | refine cp_condF rfl ?_ | refine cp_cond rfl (fun hc => ?_) (fun hc => ?_))
      | refine CP.go ?_
      | (simp only [List.append_eq, List.cons_append, List.nil_append]))
  (refine RetQ.B [] ?_; (try dsimp only [resV, List.getD_cons_succ, List.getD_cons_zero]); (exact ⟨by simp, rfl⟩))
end Go.Proofs.Ytpdegeknhapgmaa

namespace Go.Proofs.Ytpdegeknhapgmaa
set_option linter.unusedVariables false
set_option linter.unusedSimpArgs false
set_option maxHeartbeats 8000000
open Go.RowKit
set_option maxRecDepth 100000
abbrev tI : TypeId := 3
abbrev eI (x : Int) : List AV := [I x]
theorem ro_I (l : List Int) : roE (l.map eI) = l.map eI := by rw [roE_map]; rfl
theorem wrap_u64_lt (n : Int) : (IntKind.u64.wrap n).toNat < 18446744073709551616 := by
  simp [IntKind.wrap, IntKind.bits, IntKind.signed]; omega
theorem dint_ac (n : Int) : AC Try.prog 43 [I n] [] (fun v bs' => v = bs none (intS n) ∧ bs' = []) := by
  have h := (rput_ac (IntKind.u64.wrap n).toNat 8 (by omega) (wrap_u64_lt n)).ro (r2 := bs none (intS n)) (by simp [AV.ro, ro_B, intS])
  rw [← u64_nn] at h
  refine AC.N Try.func43 Try.ntmps43 ?_
  intro X
  simp only [nx, Nat.reduceAdd, Nat.reduceSub, BEq.rfl]
  repeat' (first
    | ((first
    | ((with_reducible apply AP.k_any); first
             | refine AP.S ?_
      )
    | ((with_reducible apply AP.k_any); refine AP.C (h) ?_)
    )
      <;> (try simp only [nx, Nat.reduceAdd, Nat.reduceSub, BEq.rfl]))
    | ((with_reducible apply AP.k_nil); first
        | (refine AP.nil (hQ' _ ?_); clear hQ' Q')
        | refine AP.nil ?_)
    | ((with_reducible apply CP.k_reg); refine cp_regG fun Q' hQ' => ?_)
      | (with_reducible apply CP.k_reg1; refine cp_region ?_)
      | ((with_reducible apply CP.k_cond); first | refine cp_condT rfl ?_ | refine cp_condF rfl ?_ | refine cp_cond rfl (fun hc => ?_) (fun hc => ?_))
      | refine CP.go ?_
      | (simp only [List.append_eq, List.cons_append, List.nil_append]))
  (refine RetQ.B [] ?_; (try dsimp only [resV, List.getD_cons_succ, List.getD_cons_zero]); (exact ⟨rfl, rfl⟩))
theorem dflag_ac (b : Bool) : AC Try.prog 46 [B b] [] (fun v bs' => v = bs (some tU) (flagS b) ∧ bs' = []) := by
  cases b with
  | true =>
    refine AC.N Try.func46 Try.ntmps46 ?_
    intro X
    simp only [nx, Nat.reduceAdd, Nat.reduceSub, BEq.rfl]
    repeat' (first
      | ((first
      | ((with_reducible apply AP.k_any); first
               | refine AP.S ?_
        )
      
      )
        <;> (try simp only [nx, Nat.reduceAdd, Nat.reduceSub, BEq.rfl]))
      | ((with_reducible apply AP.k_nil); first
          | (refine AP.nil (hQ' _ ?_); clear hQ' Q')
          | refine AP.nil ?_)
      | ((with_reducible apply CP.k_reg); refine cp_regG fun Q' hQ' => ?_)
        | (with_reducible apply CP.k_reg1; refine cp_region ?_)
        | ((with_reducible apply CP.k_cond); first | refine cp_condT rfl ?_ | refine cp_condF rfl ?_ | refine cp_cond rfl (fun hc => ?_) (fun hc => ?_))
        | refine CP.go ?_
        | (simp only [List.append_eq, List.cons_append, List.nil_append]))
    (refine RetQ.B [] ?_; (try dsimp only [resV, List.getD_cons_succ, List.getD_cons_zero]); (exact ⟨rfl, rfl⟩))
  | false =>
    refine AC.N Try.func46 Try.ntmps46 ?_
    intro X
    simp only [nx, Nat.reduceAdd, Nat.reduceSub, BEq.rfl]
    repeat' (first
      | ((first
      | ((with_reducible apply AP.k_any); first
               | refine AP.S ?_
        )
      
      )
        <;> (try simp only [nx, Nat.reduceAdd, Nat.reduceSub, BEq.rfl]))
      | ((with_reducible apply AP.k_nil); first
          | (refine AP.nil (hQ' _ ?_); clear hQ' Q')
          | refine AP.nil ?_)
      | ((with_reducible apply CP.k_reg); refine cp_regG fun Q' hQ' => ?_)
        | (with_reducible apply CP.k_reg1; refine cp_region ?_)
        | ((with_reducible apply CP.k_cond); first | refine cp_condT rfl ?_ | refine cp_condF rfl ?_ | refine cp_cond rfl (fun hc => ?_) (fun hc => ?_))
        | refine CP.go ?_
        | (simp only [List.append_eq, List.cons_append, List.nil_append]))
    (refine RetQ.B [] ?_; (try dsimp only [resV, List.getD_cons_succ, List.getD_cons_zero]); (exact ⟨rfl, rfl⟩))
theorem dbytes_ac (b : List UInt8) (hb : b.length ≤ 10000000) : AC Try.prog 56 [bs none b] [] (fun v bs' => v = bs (some tU) (putS b.length 4 ++ b) ∧ bs' = []) := by
  have hw : IntKind.u64.wrap (b.length : Int) = (b.length : Int) := by simp [IntKind.wrap, IntKind.bits, IntKind.signed]; omega
  have h := (rput_ac b.length 4 (by omega) (by omega)).ro (r2 := bs none (putS b.length 4)) (by simp [AV.ro, ro_B])
  rw [← hw] at h
  have h2 := cat_ac (putS b.length 4) b (by simp [putS_length]) (by omega)
  refine AC.N Try.func56 Try.ntmps56 ?_
  intro X
  simp only [nx, Nat.reduceAdd, Nat.reduceSub, BEq.rfl]
  repeat' (first
    | ((first
    | ((with_reducible apply AP.k_any); first
             | refine AP.S ?_
      )
    | ((with_reducible apply AP.k_any); refine AP.C (h) ?_)
    | ((with_reducible apply AP.k_any); refine AP.C (h2) ?_)
    )
      <;> (try simp only [nx, Nat.reduceAdd, Nat.reduceSub, BEq.rfl]))
    | ((with_reducible apply AP.k_nil); first
        | (refine AP.nil (hQ' _ ?_); clear hQ' Q')
        | refine AP.nil ?_)
    | ((with_reducible apply CP.k_reg); refine cp_regG fun Q' hQ' => ?_)
      | (with_reducible apply CP.k_reg1; refine cp_region ?_)
      | ((with_reducible apply CP.k_cond); first | refine cp_condT rfl ?_ | refine cp_condF rfl ?_ | refine cp_cond rfl (fun hc => ?_) (fun hc => ?_))
      | refine CP.go ?_
      | (simp only [List.append_eq, List.cons_append, List.nil_append]))
  (refine RetQ.B [] ?_; (try dsimp only [resV, List.getD_cons_succ, List.getD_cons_zero]); (exact ⟨rfl, rfl⟩))
def numS (l : List Int) : List UInt8 := (l.map intS).flatten
theorem intS_length (n : Int) : (intS n).length = 8 := putS_length _ _
theorem numS_length (l : List Int) : (numS l).length = 8 * l.length := by
  induction l with
  | nil => rfl
  | cons a l ih => simp only [numS, List.map_cons, List.flatten_cons, List.length_append, List.length_cons, intS_length] at ih ⊢; omega
theorem numS_snoc (l : List Int) (x : Int) : numS (l ++ [x]) = numS l ++ intS x := by simp [numS]
theorem numbers_ac (l : List Int) (hl : l.length ≤ 1000000) : AC Try.prog 45 [.sl none 1 (l.map eI)] [] (fun v bs' => v = bs (some tU) (numS l) ∧ bs' = []) := by
  refine AC.N Try.func45 Try.ntmps45 ?_
  intro X
  simp only [nx, Nat.reduceAdd, Nat.reduceSub, BEq.rfl]
  repeat' (first
    | ((first
    | ((with_reducible apply AP.k_any); first
             | refine AP.S ?_
             | refine AP.E ?_
      )
    
    )
      <;> (try simp only [nx, Nat.reduceAdd, Nat.reduceSub, BEq.rfl]))
    | ((with_reducible apply AP.k_nil); first
        | (refine AP.nil (hQ' _ ?_); clear hQ' Q')
        | refine AP.nil ?_)
    | ((with_reducible apply CP.k_reg); refine cp_regG fun Q' hQ' => ?_)
      | (with_reducible apply CP.k_reg1; refine cp_region ?_)
      | ((with_reducible apply CP.k_cond); first | refine cp_condT rfl ?_ | refine cp_condF rfl ?_ | refine cp_cond rfl (fun hc => ?_) (fun hc => ?_))
      | refine CP.go ?_
      | (simp only [List.append_eq, List.cons_append, List.nil_append]))
  refine CP.gh (gh_nil (t := 3) (e := tU) (k := 1) rfl) ?_
  simp only [nx, Nat.reduceAdd, Nat.reduceSub, BEq.rfl]
  refine cp_loopS [3, 4, 5, 6, 7, 8, 9, 10, 11, 12, 13, 14, 15, 16, 17] (fun a : Nat × Nat => l.length - a.1) (fun a => a.1 ≤ l.length) (fun a => [(4, I a.1), (3, .hd 0 a.2)]) (fun a => [(0, ⟨a.2, .r tU 1 ((numS (l.take a.1)).map eB)⟩)]) (0, 1) (Nat.zero_le _) (by exact Gh.W) ?_
  rintro ⟨i, u⟩ hi
  simp only [setT, deT, setB, List.set_cons_succ, List.set_cons_zero]
  dsimp only at hi
  by_cases hlt : i < l.length
  · have hw : IntKind.i64.wrap ((i : Int) + 1) = ((i + 1 : Nat) : Int) := wrap_i64 (by omega) (by omega)
    have hn := numS_length (l.take i)
    have hlen : ((numS (l.take i)).map eB).length + ((intS l[i]).map eB).length ≤ 1000000000 := by
      rw [List.length_map, List.length_map, intS_length, hn, List.length_take]; omega
    have hx : (l.map eI)[i]? = some (eI l[i]) := by simp [hlt]
    repeat' (first
      | ((first
      | ((with_reducible apply AP.k_any); first
               | refine AP.S ?_
               | refine AP.E ?_
        )
      | ((with_reducible apply AP.k_any); refine AP.C (dint_ac l[i]) ?_)
      )
        <;> (try simp only [nx, Nat.reduceAdd, Nat.reduceSub, BEq.rfl]))
      | ((with_reducible apply AP.k_nil); first
          | (refine AP.nil (hQ' _ ?_); clear hQ' Q')
          | refine AP.nil ?_)
      | ((with_reducible apply CP.k_reg); refine cp_regG fun Q' hQ' => ?_)
        | (with_reducible apply CP.k_reg1; refine cp_region ?_)
        | ((with_reducible apply CP.k_cond); first | refine cp_condT rfl ?_ | refine cp_condF rfl ?_ | refine cp_cond rfl (fun hc => ?_) (fun hc => ?_))
        | refine CP.go ?_
        | (simp only [List.append_eq, List.cons_append, List.nil_append]))
    · simp only [hw]
      refine ⟨(i + 1, u + 1), by (dsimp only; omega), by (dsimp only; omega), ?_⟩
      dsimp only
      rw [List.take_succ_eq_append_getElem hlt, numS_snoc, List.map_append]
      exact Gh.W
    · exfalso; simp at *; omega
  · obtain rfl : i = l.length := by omega
    rw [List.take_length]
    repeat' (first
      | ((first
      | ((with_reducible apply AP.k_any); first
               | refine AP.S ?_
               | refine AP.E ?_
        )
      
      )
        <;> (try simp only [nx, Nat.reduceAdd, Nat.reduceSub, BEq.rfl]))
      | ((with_reducible apply AP.k_nil); first
          | (refine AP.nil (hQ' _ ?_); clear hQ' Q')
          | refine AP.nil ?_)
      | ((with_reducible apply CP.k_reg); refine cp_regG fun Q' hQ' => ?_)
        | (with_reducible apply CP.k_reg1; refine cp_region ?_)
        | ((with_reducible apply CP.k_cond); first | refine cp_condT rfl ?_ | refine cp_condF rfl ?_ | refine cp_cond rfl (fun hc => ?_) (fun hc => ?_))
        | refine CP.go ?_
        | (simp only [List.append_eq, List.cons_append, List.nil_append]))
    all_goals first
      | (exfalso; simp at *; done)
      | (exfalso; simp at *; omega)
      | (refine RetQ.B [] ?_; (try dsimp only [resV, List.getD_cons_succ, List.getD_cons_zero]); (exact ⟨rfl, rfl⟩))
end Go.Proofs.Ytpdegeknhapgmaa

namespace Go.Proofs.Ytpdegeknhapgmaa
set_option linter.unusedVariables false
set_option linter.unusedSimpArgs false
set_option maxHeartbeats 8000000
open Go.RowKit
set_option maxRecDepth 100000
def restF (e : Entry) : List UInt8 := numS [e.stamp, e.client, e.id] ++ (putS e.body.length 4 ++ e.body)
def entryF (e : Entry) : List UInt8 := intS e.pos ++ restF e
def memF (m : Member) : List UInt8 := numS [m.node, m.since] ++ flagS m.whole
def configF (c : Config) : List UInt8 := numS [c.epoch, c.members.length] ++ (c.members.map memF).flatten
theorem flagS_length (b : Bool) : (flagS b).length = 1 := by cases b <;> rfl
theorem memF_length (m : Member) : (memF m).length = 17 := by simp [memF, numS_length, flagS_length]
theorem restF_length (e : Entry) : (restF e).length = 28 + e.body.length := by simp [restF, numS_length, putS_length]; omega
theorem configF_length (c : Config) : (configF c).length = 16 + 17 * c.members.length := by
  have : ∀ l : List Member, ((l.map memF).flatten).length = 17 * l.length := by
    intro l
    induction l with
    | nil => rfl
    | cons a l ih => simp only [List.map_cons, List.flatten_cons, List.length_append, memF_length, List.length_cons, ih]; omega
  simp [configF, numS_length, this]
theorem drest_ac (e : Entry) (hb : e.body.length ≤ 10000000) : AC Try.prog 44 [.ag (eE none e)] [] (fun v bs' => v = bs (some tU) (restF e) ∧ bs' = []) := by
  have h1 := numbers_ac [e.stamp, e.client, e.id] (by simp)
  have h2 := (dbytes_ac e.body hb).ro (r2 := bs none (putS e.body.length 4 ++ e.body)) (by simp only [AV.ro, ro_B])
  have h3 := cat_ac (numS [e.stamp, e.client, e.id]) (putS e.body.length 4 ++ e.body) (by simp [numS_length]) (by simp [putS_length]; omega)
  refine AC.N Try.func44 Try.ntmps44 ?_
  intro X
  simp only [nx, Nat.reduceAdd, Nat.reduceSub, BEq.rfl]
  repeat' (first
    | ((first
    | ((with_reducible apply AP.k_any); first
             | refine AP.S ?_
      )
    
    )
      <;> (try simp only [nx, Nat.reduceAdd, Nat.reduceSub, BEq.rfl]))
    | ((with_reducible apply AP.k_nil); first
        | (refine AP.nil (hQ' _ ?_); clear hQ' Q')
        | refine AP.nil ?_)
    | ((with_reducible apply CP.k_reg); refine cp_regG fun Q' hQ' => ?_)
      | (with_reducible apply CP.k_reg1; refine cp_region ?_)
      | ((with_reducible apply CP.k_cond); first | refine cp_condT rfl ?_ | refine cp_condF rfl ?_ | refine cp_cond rfl (fun hc => ?_) (fun hc => ?_))
      | refine CP.go ?_
      | (simp only [List.append_eq, List.cons_append, List.nil_append]))
  refine CP.gh gh_slot ?_; simp only [nx, Nat.reduceAdd, Nat.reduceSub, BEq.rfl]
  refine CP.gh gh_slot ?_; simp only [nx, Nat.reduceAdd, Nat.reduceSub, BEq.rfl]
  refine CP.gh gh_slot ?_; simp only [nx, Nat.reduceAdd, Nat.reduceSub, BEq.rfl]
  refine cp_drawI (fun zs zb => ⟨setT zs.t [(3, cond (zb.getD 0 false) (.bp 0 1 1) (.tu [])), (4, cond (zb.getD 1 false) (I e.stamp) (.tu [])), (5, cond (zb.getD 2 false) (.bp 0 1 2) (.tu [])), (6, cond (zb.getD 3 false) (I e.client) (.tu [])), (7, cond (zb.getD 4 false) (.bp 0 1 3) (.tu [])), (8, cond (zb.getD 5 false) (I e.id) (.tu [])), (9, cond (zb.getD 6 false) (.hd 1 1) (.tu [])), (10, cond (zb.getD 7 false) (.hd 2 1) (.tu [])), (11, cond (zb.getD 8 false) (.bp 0 1 4) (.tu [])), (12, cond (zb.getD 9 false) (bs none e.body) (.tu [])), (13, cond (zb.getD 10 false) (bs none (putS e.body.length 4 ++ e.body)) (.tu [])), (14, cond (zb.getD 11 false) (.hd 3 1) (.tu [])), (2, cond (zb.getD 12 false) (.hd 3 1) (.sc (.slice none 0 0)))], (((zs.b.set 1 (cond (zb.getD 6 false) (⟨1, .r tI 1 [eI e.stamp, eI e.client, eI e.id]⟩) (zs.b.getD 1 ⟨0, .x⟩))).set 2 (cond (zb.getD 7 false) (⟨1, .r tU 1 ((numS [e.stamp, e.client, e.id]).map eB)⟩) (zs.b.getD 2 ⟨0, .x⟩))).set 3 (cond (zb.getD 11 false) (⟨1, .r tU 1 ((restF e).map eB)⟩) (zs.b.getD 3 ⟨0, .x⟩)))⟩) (by kernel_rfl) (by kernel_rfl) (by kernel_rfl) ?_ ?_
  rotate_left
  simp only [cond_true, cond_false, setT, List.set_cons_succ, List.set_cons_zero, List.getD_cons_succ, List.getD_cons_zero, List.set_cons_succ, List.length_cons, List.length_nil, List.replicate_succ, List.replicate_zero, Nat.reduceAdd]
  rotate_left
  · intro b hb' hcl
    obtain ⟨l0, b0, rfl, hb0⟩ := len_cons hb'
    obtain ⟨l1, b1, rfl, hb1⟩ := len_cons hb0
    obtain ⟨l2, b2, rfl, hb2⟩ := len_cons hb1
    obtain ⟨l3, b3, rfl, hb3⟩ := len_cons hb2
    obtain ⟨l4, b4, rfl, hb4⟩ := len_cons hb3
    obtain ⟨l5, b5, rfl, hb5⟩ := len_cons hb4
    obtain ⟨l6, b6, rfl, hb6⟩ := len_cons hb5
    obtain ⟨l7, b7, rfl, hb7⟩ := len_cons hb6
    obtain ⟨l8, b8, rfl, hb8⟩ := len_cons hb7
    obtain ⟨l9, b9, rfl, hb9⟩ := len_cons hb8
    obtain ⟨l10, b10, rfl, hb10⟩ := len_cons hb9
    obtain ⟨l11, b11, rfl, hb11⟩ := len_cons hb10
    obtain ⟨l12, b12, rfl, hb12⟩ := len_cons hb11
    obtain rfl := List.length_eq_zero_iff.1 hb12
    clear hb' hb0 hb1 hb2 hb3 hb4 hb5 hb6 hb7 hb8 hb9 hb10 hb11 hb12
    · simp only [closedB, depsOk, Region.binds, List.toList_toArray, List.all_cons, List.all_nil, List.getD_cons_succ, List.getD_cons_zero, Bool.not_true, Bool.not_false, Bool.true_or, Bool.false_or, Bool.and_true, Bool.true_and, Bool.or_true, Bool.and_false, Bool.or_false, Bool.false_and, Bool.and_eq_true, Bool.or_eq_true, Bool.not_eq_true'] at hcl
      simp only [StepsP]
      refine ⟨?_, ?_, ?_, ?_, ?_, ?_, ?_, ?_, ?_, ?_, ?_, ?_, ?_, trivial⟩
      · intro h1 h2
        simp [depsOk, Region.binds] at h1 h2
        subst h1
        (repeat (obtain ⟨rfl, h2⟩ := h2))
        (try subst h2)
        clear hcl
        simp only [cond_true, cond_false, setT, List.set_cons_succ, List.set_cons_zero, List.getD_cons_succ, List.getD_cons_zero, List.set_cons_succ]
        (with_reducible apply AP.k_any); first | (refine AP.sm false rfl ?_ ?_; focus ((repeat' (with_reducible apply And.intro)) <;> (first | exact True.intro | exact rfl | omega | (simp; omega) | (simp; done) | assumption | exact .inl rfl | (refine .inr ?_; simp; try omega)))) | fail "no step"
        all_goals (try simp only [nx, Nat.reduceAdd, Nat.reduceSub, BEq.rfl])
        refine AP.nil ?_
        exact ⟨rfl, rfl⟩
      · intro h1 h2
        simp [depsOk, Region.binds] at h1 h2
        subst h1
        (repeat (obtain ⟨rfl, h2⟩ := h2))
        (try subst h2)
        (first | (obtain rfl : l6 = false := by grind only) | skip)
        (first | (obtain rfl : l7 = false := by grind only) | skip)
        (first | (obtain rfl : l11 = false := by grind only) | skip)
        clear hcl
        simp only [cond_true, cond_false, setT, List.set_cons_succ, List.set_cons_zero, List.getD_cons_succ, List.getD_cons_zero, List.set_cons_succ]
        (with_reducible apply AP.k_any); first | (refine AP.sm false rfl ?_ ?_; focus ((repeat' (with_reducible apply And.intro)) <;> (first | exact True.intro | exact rfl | omega | (simp; omega) | (simp; done) | assumption | exact .inl rfl | (refine .inr ?_; simp; try omega)))) | (refine AP.el rfl ?_ (by (first | (refine ⟨?_, ?_⟩; assumption; rfl) | exact ⟨mapAt (by (first | omega | (simp; omega) | (simp; done) | assumption)), rfl⟩ | exact ⟨rfl, rfl⟩)) ?_; focus ((repeat' (with_reducible apply And.intro)) <;> (first | exact True.intro | exact rfl | omega | (simp; omega) | (simp; done) | assumption | exact .inl rfl | (refine .inr ?_; simp; try omega)))) | fail "no step"
        all_goals (try simp only [nx, Nat.reduceAdd, Nat.reduceSub, BEq.rfl])
        refine AP.nil ?_
        exact ⟨rfl, rfl⟩
      · intro h1 h2
        simp [depsOk, Region.binds] at h1 h2
        subst h1
        (repeat (obtain ⟨rfl, h2⟩ := h2))
        (try subst h2)
        clear hcl
        simp only [cond_true, cond_false, setT, List.set_cons_succ, List.set_cons_zero, List.getD_cons_succ, List.getD_cons_zero, List.set_cons_succ]
        (with_reducible apply AP.k_any); first | (refine AP.sm false rfl ?_ ?_; focus ((repeat' (with_reducible apply And.intro)) <;> (first | exact True.intro | exact rfl | omega | (simp; omega) | (simp; done) | assumption | exact .inl rfl | (refine .inr ?_; simp; try omega)))) | fail "no step"
        all_goals (try simp only [nx, Nat.reduceAdd, Nat.reduceSub, BEq.rfl])
        refine AP.nil ?_
        exact ⟨rfl, rfl⟩
      · intro h1 h2
        simp [depsOk, Region.binds] at h1 h2
        subst h1
        (repeat (obtain ⟨rfl, h2⟩ := h2))
        (try subst h2)
        (first | (obtain rfl : l6 = false := by grind only) | skip)
        (first | (obtain rfl : l7 = false := by grind only) | skip)
        (first | (obtain rfl : l11 = false := by grind only) | skip)
        clear hcl
        simp only [cond_true, cond_false, setT, List.set_cons_succ, List.set_cons_zero, List.getD_cons_succ, List.getD_cons_zero, List.set_cons_succ]
        (with_reducible apply AP.k_any); first | (refine AP.sm false rfl ?_ ?_; focus ((repeat' (with_reducible apply And.intro)) <;> (first | exact True.intro | exact rfl | omega | (simp; omega) | (simp; done) | assumption | exact .inl rfl | (refine .inr ?_; simp; try omega)))) | (refine AP.el rfl ?_ (by (first | (refine ⟨?_, ?_⟩; assumption; rfl) | exact ⟨mapAt (by (first | omega | (simp; omega) | (simp; done) | assumption)), rfl⟩ | exact ⟨rfl, rfl⟩)) ?_; focus ((repeat' (with_reducible apply And.intro)) <;> (first | exact True.intro | exact rfl | omega | (simp; omega) | (simp; done) | assumption | exact .inl rfl | (refine .inr ?_; simp; try omega)))) | fail "no step"
        all_goals (try simp only [nx, Nat.reduceAdd, Nat.reduceSub, BEq.rfl])
        refine AP.nil ?_
        exact ⟨rfl, rfl⟩
      · intro h1 h2
        simp [depsOk, Region.binds] at h1 h2
        subst h1
        (repeat (obtain ⟨rfl, h2⟩ := h2))
        (try subst h2)
        clear hcl
        simp only [cond_true, cond_false, setT, List.set_cons_succ, List.set_cons_zero, List.getD_cons_succ, List.getD_cons_zero, List.set_cons_succ]
        (with_reducible apply AP.k_any); first | (refine AP.sm false rfl ?_ ?_; focus ((repeat' (with_reducible apply And.intro)) <;> (first | exact True.intro | exact rfl | omega | (simp; omega) | (simp; done) | assumption | exact .inl rfl | (refine .inr ?_; simp; try omega)))) | fail "no step"
        all_goals (try simp only [nx, Nat.reduceAdd, Nat.reduceSub, BEq.rfl])
        refine AP.nil ?_
        exact ⟨rfl, rfl⟩
      · intro h1 h2
        simp [depsOk, Region.binds] at h1 h2
        subst h1
        (repeat (obtain ⟨rfl, h2⟩ := h2))
        (try subst h2)
        (first | (obtain rfl : l6 = false := by grind only) | skip)
        (first | (obtain rfl : l7 = false := by grind only) | skip)
        (first | (obtain rfl : l11 = false := by grind only) | skip)
        clear hcl
        simp only [cond_true, cond_false, setT, List.set_cons_succ, List.set_cons_zero, List.getD_cons_succ, List.getD_cons_zero, List.set_cons_succ]
        (with_reducible apply AP.k_any); first | (refine AP.sm false rfl ?_ ?_; focus ((repeat' (with_reducible apply And.intro)) <;> (first | exact True.intro | exact rfl | omega | (simp; omega) | (simp; done) | assumption | exact .inl rfl | (refine .inr ?_; simp; try omega)))) | (refine AP.el rfl ?_ (by (first | (refine ⟨?_, ?_⟩; assumption; rfl) | exact ⟨mapAt (by (first | omega | (simp; omega) | (simp; done) | assumption)), rfl⟩ | exact ⟨rfl, rfl⟩)) ?_; focus ((repeat' (with_reducible apply And.intro)) <;> (first | exact True.intro | exact rfl | omega | (simp; omega) | (simp; done) | assumption | exact .inl rfl | (refine .inr ?_; simp; try omega)))) | fail "no step"
        all_goals (try simp only [nx, Nat.reduceAdd, Nat.reduceSub, BEq.rfl])
        refine AP.nil ?_
        exact ⟨rfl, rfl⟩
      · intro h1 h2
        simp [depsOk, Region.binds] at h1 h2
        subst h1
        (repeat (obtain ⟨rfl, h2⟩ := h2))
        (try subst h2)
        (first | (obtain rfl : l7 = false := by grind only) | skip)
        (first | (obtain rfl : l11 = false := by grind only) | skip)
        clear hcl
        simp only [cond_true, cond_false, setT, List.set_cons_succ, List.set_cons_zero, List.getD_cons_succ, List.getD_cons_zero, List.set_cons_succ]
        (with_reducible apply AP.k_any); first | (refine AP.sm false rfl ?_ ?_; focus ((repeat' (with_reducible apply And.intro)) <;> (first | exact True.intro | exact rfl | omega | (simp; omega) | (simp; done) | assumption | exact .inl rfl | (refine .inr ?_; simp; try omega)))) | fail "no step"
        all_goals (try simp only [nx, Nat.reduceAdd, Nat.reduceSub, BEq.rfl])
        refine AP.nil ?_
        exact ⟨rfl, rfl⟩
      · intro h1 h2
        simp [depsOk, Region.binds] at h1 h2
        subst h1
        (repeat (obtain ⟨rfl, h2⟩ := h2))
        (try subst h2)
        (first | (obtain rfl : l6 = true := by grind only) | skip)
        (first | (obtain rfl : l11 = false := by grind only) | skip)
        clear hcl
        simp only [cond_true, cond_false, setT, List.set_cons_succ, List.set_cons_zero, List.getD_cons_succ, List.getD_cons_zero, List.set_cons_succ]
        (first
        | ((with_reducible apply AP.k_any); refine AP.CL (h1) ?_)
        | ((with_reducible apply AP.k_any); refine AP.C (h2) ?_)
        | ((with_reducible apply AP.k_any); refine AP.CL (h3) ?_)
        | fail "no arm")
        all_goals (try simp only [nx, Nat.reduceAdd, Nat.reduceSub, BEq.rfl])
        refine AP.nil ?_
        exact ⟨rfl, rfl⟩
      · intro h1 h2
        simp [depsOk, Region.binds] at h1 h2
        subst h1
        (repeat (obtain ⟨rfl, h2⟩ := h2))
        (try subst h2)
        clear hcl
        simp only [cond_true, cond_false, setT, List.set_cons_succ, List.set_cons_zero, List.getD_cons_succ, List.getD_cons_zero, List.set_cons_succ]
        (with_reducible apply AP.k_any); first | (refine AP.sm false rfl ?_ ?_; focus ((repeat' (with_reducible apply And.intro)) <;> (first | exact True.intro | exact rfl | omega | (simp; omega) | (simp; done) | assumption | exact .inl rfl | (refine .inr ?_; simp; try omega)))) | fail "no step"
        all_goals (try simp only [nx, Nat.reduceAdd, Nat.reduceSub, BEq.rfl])
        refine AP.nil ?_
        exact ⟨rfl, rfl⟩
      · intro h1 h2
        simp [depsOk, Region.binds] at h1 h2
        subst h1
        (repeat (obtain ⟨rfl, h2⟩ := h2))
        (try subst h2)
        (first | (obtain rfl : l11 = false := by grind only) | skip)
        clear hcl
        simp only [cond_true, cond_false, setT, List.set_cons_succ, List.set_cons_zero, List.getD_cons_succ, List.getD_cons_zero, List.set_cons_succ]
        (with_reducible apply AP.k_any); first | (refine AP.sm false rfl ?_ ?_; focus ((repeat' (with_reducible apply And.intro)) <;> (first | exact True.intro | exact rfl | omega | (simp; omega) | (simp; done) | assumption | exact .inl rfl | (refine .inr ?_; simp; try omega)))) | (refine AP.el rfl ?_ (by (first | (refine ⟨?_, ?_⟩; assumption; rfl) | exact ⟨mapAt (by (first | omega | (simp; omega) | (simp; done) | assumption)), rfl⟩ | exact ⟨rfl, rfl⟩)) ?_; focus ((repeat' (with_reducible apply And.intro)) <;> (first | exact True.intro | exact rfl | omega | (simp; omega) | (simp; done) | assumption | exact .inl rfl | (refine .inr ?_; simp; try omega)))) | fail "no step"
        all_goals (try simp only [nx, Nat.reduceAdd, Nat.reduceSub, BEq.rfl])
        refine AP.nil ?_
        exact ⟨rfl, rfl⟩
      · intro h1 h2
        simp [depsOk, Region.binds] at h1 h2
        subst h1
        (repeat (obtain ⟨rfl, h2⟩ := h2))
        (try subst h2)
        clear hcl
        simp only [cond_true, cond_false, setT, List.set_cons_succ, List.set_cons_zero, List.getD_cons_succ, List.getD_cons_zero, List.set_cons_succ]
        (first
        | ((with_reducible apply AP.k_any); refine AP.CL (h1) ?_)
        | ((with_reducible apply AP.k_any); refine AP.C (h2) ?_)
        | ((with_reducible apply AP.k_any); refine AP.CL (h3) ?_)
        | fail "no arm")
        all_goals (try simp only [nx, Nat.reduceAdd, Nat.reduceSub, BEq.rfl])
        refine AP.nil ?_
        exact ⟨rfl, rfl⟩
      · intro h1 h2
        simp [depsOk, Region.binds] at h1 h2
        subst h1
        (repeat (obtain ⟨rfl, h2⟩ := h2))
        (try subst h2)
        (first | (obtain rfl : l6 = true := by grind only) | skip)
        (first | (obtain rfl : l7 = true := by grind only) | skip)
        clear hcl
        simp only [cond_true, cond_false, setT, List.set_cons_succ, List.set_cons_zero, List.getD_cons_succ, List.getD_cons_zero, List.set_cons_succ]
        (first
        | ((with_reducible apply AP.k_any); refine AP.CL (h1) ?_)
        | ((with_reducible apply AP.k_any); refine AP.C (h2) ?_)
        | ((with_reducible apply AP.k_any); refine AP.CL (h3) ?_)
        | fail "no arm")
        all_goals (try simp only [nx, Nat.reduceAdd, Nat.reduceSub, BEq.rfl])
        refine AP.nil ?_
        exact ⟨rfl, rfl⟩
      · intro h1 h2
        simp [depsOk, Region.binds] at h1 h2
        subst h1
        (repeat (obtain ⟨rfl, h2⟩ := h2))
        (try subst h2)
        clear hcl
        simp only [cond_true, cond_false, setT, List.set_cons_succ, List.set_cons_zero, List.getD_cons_succ, List.getD_cons_zero, List.set_cons_succ]
        (with_reducible apply AP.k_any); first | (refine AP.sm false rfl ?_ ?_; focus ((repeat' (with_reducible apply And.intro)) <;> (first | exact True.intro | exact rfl | omega | (simp; omega) | (simp; done) | assumption | exact .inl rfl | (refine .inr ?_; simp; try omega)))) | fail "no step"
        all_goals (try simp only [nx, Nat.reduceAdd, Nat.reduceSub, BEq.rfl])
        refine AP.nil ?_
        exact ⟨rfl, rfl⟩
  repeat' (first
    | ((first
    | ((with_reducible apply AP.k_any); first
             | refine AP.S ?_
      )
    
    )
      <;> (try simp only [nx, Nat.reduceAdd, Nat.reduceSub, BEq.rfl]))
    | ((with_reducible apply AP.k_nil); first
        | (refine AP.nil (hQ' _ ?_); clear hQ' Q')
        | refine AP.nil ?_)
    | ((with_reducible apply CP.k_reg); refine cp_regG fun Q' hQ' => ?_)
      | (with_reducible apply CP.k_reg1; refine cp_region ?_)
      | ((with_reducible apply CP.k_cond); first | refine cp_condT rfl ?_ | refine cp_condF rfl ?_ | refine cp_cond rfl (fun hc => ?_) (fun hc => ?_))
      | refine CP.go ?_
      | (simp only [List.append_eq, List.cons_append, List.nil_append]))
  (refine RetQ.B [] ?_; (try dsimp only [resV, List.getD_cons_succ, List.getD_cons_zero]); (exact ⟨rfl, rfl⟩))
theorem dentry_ac (e : Entry) (hb : e.body.length ≤ 10000000) : AC Try.prog 15 [.ag (eE none e)] [] (fun v bs' => v = bs (some tU) (entryF e) ∧ bs' = []) := by
  have h1 := (drest_ac e hb).ro (r2 := bs none (restF e)) (by simp only [AV.ro, ro_B])
  have h2 := cat_ac (intS e.pos) (restF e) (by simp [intS_length]) (by simp [restF_length]; omega)
  refine AC.N Try.func15 Try.ntmps15 ?_
  intro X
  simp only [nx, Nat.reduceAdd, Nat.reduceSub, BEq.rfl]
  repeat' (first
    | ((first
    | ((with_reducible apply AP.k_any); first
             | refine AP.S ?_
      )
    
    )
      <;> (try simp only [nx, Nat.reduceAdd, Nat.reduceSub, BEq.rfl]))
    | ((with_reducible apply AP.k_nil); first
        | (refine AP.nil (hQ' _ ?_); clear hQ' Q')
        | refine AP.nil ?_)
    | ((with_reducible apply CP.k_reg); refine cp_regG fun Q' hQ' => ?_)
      | (with_reducible apply CP.k_reg1; refine cp_region ?_)
      | ((with_reducible apply CP.k_cond); first | refine cp_condT rfl ?_ | refine cp_condF rfl ?_ | refine cp_cond rfl (fun hc => ?_) (fun hc => ?_))
      | refine CP.go ?_
      | (simp only [List.append_eq, List.cons_append, List.nil_append]))
  refine CP.gh gh_slot ?_; simp only [nx, Nat.reduceAdd, Nat.reduceSub, BEq.rfl]
  refine cp_drawI (fun zs zb => ⟨setT zs.t [(3, cond (zb.getD 0 false) (.bp 0 1 0) (.tu [])), (4, cond (zb.getD 1 false) (I e.pos) (.tu [])), (5, cond (zb.getD 2 false) (bs none (intS e.pos)) (.tu [])), (6, cond (zb.getD 3 false) (.ag (eE none e)) (.tu [])), (7, cond (zb.getD 4 false) (bs none (restF e)) (.tu [])), (8, cond (zb.getD 5 false) (.hd 1 1) (.tu [])), (2, cond (zb.getD 6 false) (.hd 1 1) (.sc (.slice none 0 0)))], (zs.b.set 1 (cond (zb.getD 5 false) (⟨1, .r tU 1 ((entryF e).map eB)⟩) (zs.b.getD 1 ⟨0, .x⟩)))⟩) (by kernel_rfl) (by kernel_rfl) (by kernel_rfl) ?_ ?_
  rotate_left
  simp only [cond_true, cond_false, setT, List.set_cons_succ, List.set_cons_zero, List.getD_cons_succ, List.getD_cons_zero, List.set_cons_succ, List.length_cons, List.length_nil, List.replicate_succ, List.replicate_zero, Nat.reduceAdd]
  rotate_left
  · intro b hb' hcl
    obtain ⟨l0, b0, rfl, hb0⟩ := len_cons hb'
    obtain ⟨l1, b1, rfl, hb1⟩ := len_cons hb0
    obtain ⟨l2, b2, rfl, hb2⟩ := len_cons hb1
    obtain ⟨l3, b3, rfl, hb3⟩ := len_cons hb2
    obtain ⟨l4, b4, rfl, hb4⟩ := len_cons hb3
    obtain ⟨l5, b5, rfl, hb5⟩ := len_cons hb4
    obtain ⟨l6, b6, rfl, hb6⟩ := len_cons hb5
    obtain rfl := List.length_eq_zero_iff.1 hb6
    clear hb' hb0 hb1 hb2 hb3 hb4 hb5 hb6
    · simp only [closedB, depsOk, Region.binds, List.toList_toArray, List.all_cons, List.all_nil, List.getD_cons_succ, List.getD_cons_zero, Bool.not_true, Bool.not_false, Bool.true_or, Bool.false_or, Bool.and_true, Bool.true_and, Bool.or_true, Bool.and_false, Bool.or_false, Bool.false_and, Bool.and_eq_true, Bool.or_eq_true, Bool.not_eq_true'] at hcl
      simp only [StepsP]
      refine ⟨?_, ?_, ?_, ?_, ?_, ?_, ?_, trivial⟩
      · intro h1 h2
        simp [depsOk, Region.binds] at h1 h2
        subst h1
        (repeat (obtain ⟨rfl, h2⟩ := h2))
        (try subst h2)
        clear hcl
        simp only [cond_true, cond_false, setT, List.set_cons_succ, List.set_cons_zero, List.getD_cons_succ, List.getD_cons_zero, List.set_cons_succ]
        (with_reducible apply AP.k_any); first | (refine AP.sm false rfl ?_ ?_; focus ((repeat' (with_reducible apply And.intro)) <;> (first | exact True.intro | exact rfl | omega | (simp; omega) | (simp; done) | assumption | exact .inl rfl | (refine .inr ?_; simp; try omega)))) | fail "no step"
        all_goals (try simp only [nx, Nat.reduceAdd, Nat.reduceSub, BEq.rfl])
        refine AP.nil ?_
        exact ⟨rfl, rfl⟩
      · intro h1 h2
        simp [depsOk, Region.binds] at h1 h2
        subst h1
        (repeat (obtain ⟨rfl, h2⟩ := h2))
        (try subst h2)
        (first | (obtain rfl : l5 = false := by grind only) | skip)
        clear hcl
        simp only [cond_true, cond_false, setT, List.set_cons_succ, List.set_cons_zero, List.getD_cons_succ, List.getD_cons_zero, List.set_cons_succ]
        (with_reducible apply AP.k_any); first | (refine AP.sm false rfl ?_ ?_; focus ((repeat' (with_reducible apply And.intro)) <;> (first | exact True.intro | exact rfl | omega | (simp; omega) | (simp; done) | assumption | exact .inl rfl | (refine .inr ?_; simp; try omega)))) | (refine AP.el rfl ?_ (by (first | (refine ⟨?_, ?_⟩; assumption; rfl) | exact ⟨mapAt (by (first | omega | (simp; omega) | (simp; done) | assumption)), rfl⟩ | exact ⟨rfl, rfl⟩)) ?_; focus ((repeat' (with_reducible apply And.intro)) <;> (first | exact True.intro | exact rfl | omega | (simp; omega) | (simp; done) | assumption | exact .inl rfl | (refine .inr ?_; simp; try omega)))) | fail "no step"
        all_goals (try simp only [nx, Nat.reduceAdd, Nat.reduceSub, BEq.rfl])
        refine AP.nil ?_
        exact ⟨rfl, rfl⟩
      · intro h1 h2
        simp [depsOk, Region.binds] at h1 h2
        subst h1
        (repeat (obtain ⟨rfl, h2⟩ := h2))
        (try subst h2)
        clear hcl
        simp only [cond_true, cond_false, setT, List.set_cons_succ, List.set_cons_zero, List.getD_cons_succ, List.getD_cons_zero, List.set_cons_succ]
        (first
        | ((with_reducible apply AP.k_any); refine AP.C (dint_ac e.pos) ?_)
        | ((with_reducible apply AP.k_any); refine AP.C (h1) ?_)
        | ((with_reducible apply AP.k_any); refine AP.C (h2) ?_)
        | fail "no arm")
        all_goals (try simp only [nx, Nat.reduceAdd, Nat.reduceSub, BEq.rfl])
        refine AP.nil ?_
        exact ⟨rfl, rfl⟩
      · intro h1 h2
        simp [depsOk, Region.binds] at h1 h2
        subst h1
        (repeat (obtain ⟨rfl, h2⟩ := h2))
        (try subst h2)
        (first | (obtain rfl : l5 = false := by grind only) | skip)
        clear hcl
        simp only [cond_true, cond_false, setT, List.set_cons_succ, List.set_cons_zero, List.getD_cons_succ, List.getD_cons_zero, List.set_cons_succ]
        (with_reducible apply AP.k_any); first | (refine AP.sm false rfl ?_ ?_; focus ((repeat' (with_reducible apply And.intro)) <;> (first | exact True.intro | exact rfl | omega | (simp; omega) | (simp; done) | assumption | exact .inl rfl | (refine .inr ?_; simp; try omega)))) | (refine AP.el rfl ?_ (by (first | (refine ⟨?_, ?_⟩; assumption; rfl) | exact ⟨mapAt (by (first | omega | (simp; omega) | (simp; done) | assumption)), rfl⟩ | exact ⟨rfl, rfl⟩)) ?_; focus ((repeat' (with_reducible apply And.intro)) <;> (first | exact True.intro | exact rfl | omega | (simp; omega) | (simp; done) | assumption | exact .inl rfl | (refine .inr ?_; simp; try omega)))) | fail "no step"
        all_goals (try simp only [nx, Nat.reduceAdd, Nat.reduceSub, BEq.rfl])
        refine AP.nil ?_
        exact ⟨rfl, rfl⟩
      · intro h1 h2
        simp [depsOk, Region.binds] at h1 h2
        subst h1
        (repeat (obtain ⟨rfl, h2⟩ := h2))
        (try subst h2)
        clear hcl
        simp only [cond_true, cond_false, setT, List.set_cons_succ, List.set_cons_zero, List.getD_cons_succ, List.getD_cons_zero, List.set_cons_succ]
        (first
        | ((with_reducible apply AP.k_any); refine AP.C (dint_ac e.pos) ?_)
        | ((with_reducible apply AP.k_any); refine AP.C (h1) ?_)
        | ((with_reducible apply AP.k_any); refine AP.C (h2) ?_)
        | fail "no arm")
        all_goals (try simp only [nx, Nat.reduceAdd, Nat.reduceSub, BEq.rfl])
        refine AP.nil ?_
        exact ⟨rfl, rfl⟩
      · intro h1 h2
        simp [depsOk, Region.binds] at h1 h2
        subst h1
        (repeat (obtain ⟨rfl, h2⟩ := h2))
        (try subst h2)
        clear hcl
        simp only [cond_true, cond_false, setT, List.set_cons_succ, List.set_cons_zero, List.getD_cons_succ, List.getD_cons_zero, List.set_cons_succ]
        (first
        | ((with_reducible apply AP.k_any); refine AP.C (dint_ac e.pos) ?_)
        | ((with_reducible apply AP.k_any); refine AP.C (h1) ?_)
        | ((with_reducible apply AP.k_any); refine AP.C (h2) ?_)
        | fail "no arm")
        all_goals (try simp only [nx, Nat.reduceAdd, Nat.reduceSub, BEq.rfl])
        refine AP.nil ?_
        exact ⟨rfl, rfl⟩
      · intro h1 h2
        simp [depsOk, Region.binds] at h1 h2
        subst h1
        (repeat (obtain ⟨rfl, h2⟩ := h2))
        (try subst h2)
        clear hcl
        simp only [cond_true, cond_false, setT, List.set_cons_succ, List.set_cons_zero, List.getD_cons_succ, List.getD_cons_zero, List.set_cons_succ]
        (with_reducible apply AP.k_any); first | (refine AP.sm false rfl ?_ ?_; focus ((repeat' (with_reducible apply And.intro)) <;> (first | exact True.intro | exact rfl | omega | (simp; omega) | (simp; done) | assumption | exact .inl rfl | (refine .inr ?_; simp; try omega)))) | fail "no step"
        all_goals (try simp only [nx, Nat.reduceAdd, Nat.reduceSub, BEq.rfl])
        refine AP.nil ?_
        exact ⟨rfl, rfl⟩
  repeat' (first
    | ((first
    | ((with_reducible apply AP.k_any); first
             | refine AP.S ?_
      )
    
    )
      <;> (try simp only [nx, Nat.reduceAdd, Nat.reduceSub, BEq.rfl]))
    | ((with_reducible apply AP.k_nil); first
        | (refine AP.nil (hQ' _ ?_); clear hQ' Q')
        | refine AP.nil ?_)
    | ((with_reducible apply CP.k_reg); refine cp_regG fun Q' hQ' => ?_)
      | (with_reducible apply CP.k_reg1; refine cp_region ?_)
      | ((with_reducible apply CP.k_cond); first | refine cp_condT rfl ?_ | refine cp_condF rfl ?_ | refine cp_cond rfl (fun hc => ?_) (fun hc => ?_))
      | refine CP.go ?_
      | (simp only [List.append_eq, List.cons_append, List.nil_append]))
  (refine RetQ.B [] ?_; (try dsimp only [resV, List.getD_cons_succ, List.getD_cons_zero]); (exact ⟨rfl, rfl⟩))
theorem dconfig_ac (c : Config) (hl : c.members.length ≤ 1000000) : AC Try.prog 16 [.ag (eC none c)] [] (fun v bs' => v = bs (some tU) (configF c) ∧ bs' = []) := by
  have h1 := numbers_ac [c.epoch, c.members.length] (by simp)
  refine AC.N Try.func16 Try.ntmps16 ?_
  intro X
  simp only [nx, Nat.reduceAdd, Nat.reduceSub, BEq.rfl]
  repeat' (first
    | ((first
    | ((with_reducible apply AP.k_any); first
             | refine AP.S ?_
             | refine AP.E ?_
             | refine AP.T ?_
      )
    | ((with_reducible apply AP.k_any); refine AP.CL (h1) ?_)
    )
      <;> (try simp only [nx, Nat.reduceAdd, Nat.reduceSub, BEq.rfl]))
    | ((with_reducible apply AP.k_nil); first
        | (refine AP.nil (hQ' _ ?_); clear hQ' Q')
        | refine AP.nil ?_)
    | ((with_reducible apply CP.k_reg); refine cp_regG fun Q' hQ' => ?_)
      | (with_reducible apply CP.k_reg1; refine cp_region ?_)
      | ((with_reducible apply CP.k_cond); first | refine cp_condT rfl ?_ | refine cp_condF rfl ?_ | refine cp_cond rfl (fun hc => ?_) (fun hc => ?_))
      | refine CP.go ?_
      | (simp only [List.append_eq, List.cons_append, List.nil_append]))
  refine CP.gh gh_slot ?_; simp only [nx, Nat.reduceAdd, Nat.reduceSub, BEq.rfl]
  refine CP.gh gh_slot ?_; simp only [nx, Nat.reduceAdd, Nat.reduceSub, BEq.rfl]
  have hf : ∀ k, ((c.members.take k).map memF).flatten.length = 17 * (c.members.take k).length := by
    intro k
    generalize c.members.take k = l
    induction l with
    | nil => rfl
    | cons a l ih => simp only [List.map_cons, List.flatten_cons, List.length_append, memF_length, List.length_cons, ih]; omega
  refine cp_loopS [3, 4, 5, 13, 14, 15, 16, 17, 18, 19, 20, 21, 22, 23, 24, 25, 26, 27, 28, 29, 30, 31, 32, 33, 34, 35, 36, 37] (fun a : Nat × Nat × Nat × Nat × Nat => c.members.length - a.1) (fun a => a.1 ≤ c.members.length) (fun a => [(4, I a.1), (3, .hd 2 a.2.1)]) (fun a => [(1, ⟨a.2.2.1, .x⟩), (2, ⟨a.2.1, .r tU 1 ((numS [c.epoch, c.members.length] ++ ((c.members.take a.1).map memF).flatten).map eB)⟩), (3, ⟨a.2.2.2.1, .x⟩), (4, ⟨a.2.2.2.2, .x⟩)]) (0, 1, 1, 0, 0) (Nat.zero_le _) (by (simp only [List.take_zero, List.map_nil, List.flatten_nil, List.append_nil]); exact Gh.W) ?_
  rintro ⟨i, u, v1, v3, v4⟩ hi
  simp only [setT, deT, setB, List.set_cons_succ, List.set_cons_zero]
  dsimp only at hi
  by_cases hlt : i < c.members.length
  · have hw : IntKind.i64.wrap ((i : Int) + 1) = ((i + 1 : Nat) : Int) := wrap_i64 (by omega) (by omega)
    have h2 := numbers_ac [c.members[i].node, c.members[i].since] (by simp)
    have h3 := (dflag_ac c.members[i].whole).ro (r2 := bs none (flagS c.members[i].whole)) (by simp only [AV.ro, ro_B])
    have hn : (numS [c.epoch, (c.members.length : Int)] ++ ((c.members.take i).map memF).flatten).length ≤ 20000000 := by
      rw [List.length_append, hf, numS_length, List.length_take]; simp; omega
    have hstep : numS [c.epoch, (c.members.length : Int)] ++ ((c.members.take (i + 1)).map memF).flatten = numS [c.epoch, (c.members.length : Int)] ++ ((c.members.take i).map memF).flatten ++ numS [c.members[i].node, c.members[i].since] ++ flagS c.members[i].whole := by
      rw [List.take_succ_eq_append_getElem hlt, List.map_append, List.flatten_append]
      simp [memF]
    generalize hA : numS [c.epoch, (c.members.length : Int)] ++ ((c.members.take i).map memF).flatten = A at hn hstep ⊢
    have hl1 : (A.map eB).length + ((numS [c.members[i].node, c.members[i].since]).map eB).length ≤ 1000000000 := by
      rw [List.length_map, List.length_map, numS_length]; simp; omega
    have hl2 : (A.map eB ++ (numS [c.members[i].node, c.members[i].since]).map eB).length + ((flagS c.members[i].whole).map eB).length ≤ 1000000000 := by
      rw [List.length_append, List.length_map, List.length_map, List.length_map, numS_length, flagS_length]; simp; omega
    repeat' (first
      | ((first
      | ((with_reducible apply AP.k_any); first
               | refine AP.S ?_
               | refine AP.E ?_
               | refine AP.T ?_
        )
      | ((with_reducible apply AP.k_any); refine AP.CL (h2) ?_)
        | ((with_reducible apply AP.k_any); refine AP.C (h3) ?_)
      )
        <;> (try simp only [nx, Nat.reduceAdd, Nat.reduceSub, BEq.rfl]))
      | ((with_reducible apply AP.k_nil); first
          | (refine AP.nil (hQ' _ ?_); clear hQ' Q')
          | refine AP.nil ?_)
      | ((with_reducible apply CP.k_reg); refine cp_regG fun Q' hQ' => ?_)
        | (with_reducible apply CP.k_reg1; refine cp_region ?_)
        | ((with_reducible apply CP.k_cond); first | refine cp_condT rfl ?_ | refine cp_condF rfl ?_ | refine cp_cond rfl (fun hc => ?_) (fun hc => ?_))
        | refine CP.go ?_
        | (simp only [List.append_eq, List.cons_append, List.nil_append]))
    · simp only [hw]
      refine ⟨(i + 1, u + 1 + 1, v1 + 1, v3 + 1, v4 + 1), by (dsimp only; omega), by (dsimp only; omega), ?_⟩
      dsimp only
      rw [hstep, List.map_append, List.map_append]
      exact Gh.W
    · exfalso; simp at *; omega
  · obtain rfl : i = c.members.length := by omega
    rw [List.take_length]
    repeat' (first
      | ((first
      | ((with_reducible apply AP.k_any); first
               | refine AP.S ?_
               | refine AP.E ?_
               | refine AP.T ?_
        )
      
      )
        <;> (try simp only [nx, Nat.reduceAdd, Nat.reduceSub, BEq.rfl]))
      | ((with_reducible apply AP.k_nil); first
          | (refine AP.nil (hQ' _ ?_); clear hQ' Q')
          | refine AP.nil ?_)
      | ((with_reducible apply CP.k_reg); refine cp_regG fun Q' hQ' => ?_)
        | (with_reducible apply CP.k_reg1; refine cp_region ?_)
        | ((with_reducible apply CP.k_cond); first | refine cp_condT rfl ?_ | refine cp_condF rfl ?_ | refine cp_cond rfl (fun hc => ?_) (fun hc => ?_))
        | refine CP.go ?_
        | (simp only [List.append_eq, List.cons_append, List.nil_append]))
    all_goals first
      | (exfalso; simp at *; done)
      | (exfalso; simp at *; omega)
      | (refine RetQ.B [] ?_; (try dsimp only [resV, List.getD_cons_succ, List.getD_cons_zero]); (exact ⟨rfl, rfl⟩))
end Go.Proofs.Ytpdegeknhapgmaa

namespace Go.Proofs.Ytpdegeknhapgmaa
set_option linter.unusedVariables false
set_option linter.unusedSimpArgs false
open Go.RowKit
set_option maxRecDepth 100000
theorem addS_ok {a b : List UInt8} (h : a.length + b.length ≤ 65536) : addS (false, a) b = (false, a ++ b) := by
  simp only [addS]
  rw [if_neg (by simp; omega)]
theorem putM_ok {a : List UInt8} {m : Member} (h : a.length + 17 ≤ 65536) : putM (false, a) m = (false, a ++ memF m) := by
  unfold putM
  rw [addS_ok (by rw [intS_length]; omega), addS_ok (by rw [List.length_append, intS_length, intS_length]; omega), addS_ok (by rw [List.length_append, List.length_append, intS_length, intS_length, flagS_length]; omega)]
  simp [memF, numS]
theorem foldM_ok : ∀ {l : List Member} {a : List UInt8}, a.length + 17 * l.length ≤ 65536 → l.foldl putM (false, a) = (false, a ++ (l.map memF).flatten)
  | [], a, _ => by simp
  | m :: l, a, h => by
    rw [List.length_cons] at h
    rw [List.foldl_cons, putM_ok (by omega), foldM_ok (by rw [List.length_append, memF_length]; omega)]
    simp
theorem putC_ok {a : List UInt8} {c : Config} (h : a.length + 16 + 17 * c.members.length ≤ 65536) : putC (false, a) c = (false, a ++ configF c) := by
  unfold putC
  rw [addS_ok (by rw [intS_length]; omega), addS_ok (by rw [List.length_append, intS_length, intS_length]; omega), foldM_ok (by rw [List.length_append, List.length_append, intS_length, intS_length]; omega)]
  simp [configF, numS]
theorem putR_ok {a : List UInt8} {e : Entry} (h : a.length + 28 + e.body.length ≤ 65536) : putR (false, a) e = (false, a ++ restF e) := by
  unfold putR
  rw [addS_ok (by rw [intS_length]; omega), addS_ok (by simp only [List.length_append, intS_length]; omega), addS_ok (by simp only [List.length_append, intS_length]; omega), addS_ok (by simp only [List.length_append, intS_length, putS_length]; omega), addS_ok (by simp only [List.length_append, intS_length, putS_length]; omega)]
  simp [restF, numS]
theorem putE_ok {a : List UInt8} {e : Entry} (h : a.length + 36 + e.body.length ≤ 65536) : putE (false, a) e = (false, a ++ entryF e) := by
  have : putE (false, a) e = putR (addS (false, a) (intS e.pos)) e := rfl
  rw [this, addS_ok (by rw [intS_length]; omega), putR_ok (by rw [List.length_append, intS_length]; omega)]
  simp [entryF]
end Go.Proofs.Ytpdegeknhapgmaa

namespace Go.Proofs.Ytpdegeknhapgmaa
set_option linter.unusedVariables false
set_option linter.unusedSimpArgs false
set_option maxHeartbeats 8000000
open Go.RowKit
set_option maxRecDepth 100000
def putMsg (st : Bool × List UInt8) (m : Msg) : Bool × List UInt8 := match m.kind.toNat with
  | 1 => putAsk st m
  | 2 => putEnt st m
  | 3 => putHave st m
  | 4 => putC st m.cfg
  | 5 => putWhole st m
  | 6 => putAsk st m
  | _ => st
def askF (m : Msg) : List UInt8 := numS [m.client, m.id] ++ (putS m.body.length 4 ++ m.body)
def entF (m : Msg) : List UInt8 := numS [m.upto, m.frm, m.entries.length] ++ (m.entries.map restF).flatten
def fieldF (m : Msg) : List UInt8 := match m.kind.toNat with
  | 1 => askF m
  | 2 => entF m
  | 3 => numS [m.have_, m.done]
  | 4 => configF m.cfg
  | 5 => numS [m.since]
  | 6 => askF m
  | _ => []
def formM (m : Msg) : List UInt8 := m.kind :: fieldF m
theorem foldR_ok : ∀ {l : List Entry} {a : List UInt8}, (∀ e ∈ l, e.body.length ≤ 1024) → a.length + 2000 * l.length ≤ 65536 → l.foldl putR (false, a) = (false, a ++ (l.map restF).flatten)
  | [], a, _, _ => by simp
  | m :: l, a, hb, h => by
    rw [List.length_cons] at h
    have := hb m (by simp)
    rw [List.foldl_cons, putR_ok (by omega), foldR_ok (fun e he => hb e (by simp [he])) (by rw [List.length_append, restF_length]; omega)]
    simp
theorem allGE_all {p : Nat → Entry → Bool} : ∀ {l : List Entry} {k : Nat}, allGE p k l = true → ∀ (i : Nat) (e : Entry), l[i]? = some e → p (k + i) e = true
  | [], _, _, _, _, h => by simp at h
  | x :: l, k, h, 0, e, he => by
    simp only [allGE, Bool.and_eq_true] at h
    simp at he; subst he; exact h.1
  | x :: l, k, h, i + 1, e, he => by
    simp only [allGE, Bool.and_eq_true] at h
    have := allGE_all h.2 i e (by simpa using he)
    rwa [show k + 1 + i = k + (i + 1) by omega] at this
theorem mayEnt_body {m : Msg} (h : mayEnt m = true) : m.entries.length ≤ 4 ∧ ∀ e ∈ m.entries, e.body.length ≤ 1024 := by
  simp only [mayEnt, Bool.and_eq_true, decide_eq_true_eq] at h
  refine ⟨h.1.2, fun e he => ?_⟩
  obtain ⟨i, hi⟩ := List.mem_iff_getElem?.1 he
  have := allGE_all h.2 i e hi
  simp only [pEnt, mayE, Bool.and_eq_true, decide_eq_true_eq] at this
  exact this.1.2
theorem put_ok {m : Msg} (h : mayM m = true) : putMsg (addS (false, []) [m.kind]) m = (false, formM m) := by
  have h0 : addS (false, []) [m.kind] = (false, [m.kind]) := addS_ok (by simp)
  rw [h0]
  unfold mayM at h
  unfold putMsg formM fieldF
  have ask : mayAsk m = true → putAsk (false, [m.kind]) m = (false, m.kind :: askF m) := fun h => by
    simp only [mayAsk, Bool.and_eq_true, decide_eq_true_eq] at h
    unfold putAsk
    rw [addS_ok (by rw [intS_length]; simp), addS_ok (by simp only [List.length_append, intS_length]; simp), addS_ok (by simp only [List.length_append, intS_length, putS_length]; simp), addS_ok (by simp only [List.length_append, intS_length, putS_length]; simp; omega)]
    simp [askF, numS]
  split at h
  · rename_i hk; (try simp only [hk]); simp only [Bool.and_eq_true] at h; exact ask h.1
  · rename_i hk; (try simp only [hk])
    simp only [Bool.and_eq_true] at h
    obtain ⟨h1, h2⟩ := mayEnt_body h.1
    unfold putEnt
    rw [addS_ok (by rw [intS_length]; simp), addS_ok (by simp only [List.length_append, intS_length]; simp), addS_ok (by simp only [List.length_append, intS_length]; simp), foldR_ok h2 (by simp only [List.length_append, intS_length]; simp; omega)]
    simp [entF, numS]
  · rename_i hk; (try simp only [hk])
    unfold putHave
    rw [addS_ok (by rw [intS_length]; simp), addS_ok (by simp only [List.length_append, intS_length]; simp)]
    simp [numS]
  · rename_i hk; (try simp only [hk])
    simp only [Bool.and_eq_true] at h
    have := h.1
    simp only [mayCfg, Bool.and_eq_true, decide_eq_true_eq] at this
    rw [putC_ok (by simp; omega)]
    simp
  · rename_i hk; (try simp only [hk])
    unfold putWhole
    rw [addS_ok (by rw [intS_length]; simp)]
    simp [numS]
  · rename_i hk; (try simp only [hk]); simp only [Bool.and_eq_true] at h; exact ask h.1
  · cases h
theorem formM_length {m : Msg} (h : mayM m = true) : (formM m).length ≤ 65536 := by
  have := put_ok h
  have h1 : (putMsg (addS (false, []) [m.kind]) m).2.length ≤ 65536 := by
    have h0 : (addS (false, []) [m.kind]).2.length ≤ 65536 := addS_len (by simp)
    unfold putMsg
    split
    · exact addS_len (addS_len (addS_len (addS_len h0)))
    · exact foldR_len (addS_len (addS_len (addS_len h0)))
    · exact addS_len (addS_len h0)
    · unfold putC
      have : ∀ (l : List Member) (st : Bool × List UInt8), st.2.length ≤ 65536 → (l.foldl putM st).2.length ≤ 65536 := fun l => by
        induction l with
        | nil => intro st h; exact h
        | cons m l ih => intro st h; exact ih _ (putM_len h)
      exact this _ _ (addS_len (addS_len h0))
    · exact addS_len h0
    · exact addS_len (addS_len (addS_len (addS_len h0)))
    · exact h0
  rw [this] at h1; exact h1
theorem wdoneO_ac (acc : List UInt8) (hst : acc.length ≤ 65536) :
    AC Try.prog 12 [.bp 0 0 0] [wB (false, acc)] (fun v bs' => v = .tu [bs (some tU) acc, I 0] ∧ bs' = [wD (false, acc)]) := by
  have h := wcat_ac [acc] (by simp) (by simp; omega)
  refine AC.N Try.func12 Try.ntmps12 ?_
  intro X
  simp only [nx, Nat.reduceAdd, Nat.reduceSub, BEq.rfl]
  refine CP.gh (gh_fz (b := 1) (u := 1) rfl rfl (by (repeat' (first | exact FzC.nil | apply FzC.cons | exact FzV.hd | apply FzV.ag | exact FzV.same))) (by (repeat' (first | exact FzB.nil | apply FzB.c | apply FzB.same | exact FzC.nil | apply FzC.cons | exact FzV.hd | apply FzV.ag | exact FzV.same)))) ?_
  simp only [ro_B]
  repeat' (first
    | ((first
    | ((with_reducible apply AP.k_any); first
             | refine AP.S ?_
             | (refine AP.Y ?_; dsimp only) | refine AP.G (fun hg => ?_) (fun hg => ?_)
             | (refine AP.V (fun c hnil => ?_); simp only [nz])
      )
    | ((with_reducible apply AP.k_any); refine AP.C (h) ?_)
    | ((with_reducible apply AP.k_any); refine AP.gh (gh_fz (b := 1) (u := 2) rfl rfl (by (repeat' (first | exact FzC.nil | apply FzC.cons | exact FzV.hd | apply FzV.ag | exact FzV.same))) (by (repeat' (first | exact FzB.nil | apply FzB.c | apply FzB.same | exact FzC.nil | apply FzC.cons | exact FzV.hd | apply FzV.ag | exact FzV.same)))) ?_; first | simp only [roE, roC, AV.ro, ro_B, ro_M, ro_E] | simp only [roE, roC, AV.ro, ro_B])
    )
      <;> (try simp only [nx, Nat.reduceAdd, Nat.reduceSub, BEq.rfl]))
    | ((with_reducible apply AP.k_nil); first
        | (refine AP.nil (hQ' _ ?_); clear hQ' Q')
        | refine AP.nil ?_)
    | ((with_reducible apply CP.k_reg); refine cp_regG fun Q' hQ' => ?_)
      | (with_reducible apply CP.k_reg1; refine cp_region ?_)
      | ((with_reducible apply CP.k_cond); first | refine cp_condT rfl ?_ | refine cp_condF rfl ?_ | refine cp_cond rfl (fun hc => ?_) (fun hc => ?_))
      | refine CP.go ?_
      | (simp only [List.append_eq, List.cons_append, List.nil_append]))
  (refine RetQ.B [(0, 0)] ?_; (try dsimp only [resV, List.getD_cons_succ, List.getD_cons_zero]); (exact ⟨by simp, rfl⟩))
def printS (m : Msg) : List UInt8 × Int := if mayM m = true then (formM m, 0) else ([], 2)
theorem printG_ac (f1 f2 f3 f4 : Nat) (m : Msg) (hs : m.small) (h : mayM m = true) (hof : AC Try.prog 53 [.ag (eG m)] [] (fun v bs => v = .tu [.ag [fnv f1, fnv f2, fnv f3, fnv f4], B true] ∧ bs = []))
    (hput : AC Try.prog f3 [.bp 0 0 0, .ag (eG m)] [wB (false, [m.kind])] (fun v bs => v = .tu [] ∧ bs = [wB (putMsg (addS (false, []) [m.kind]) m)])) :
    AC Try.prog 23 [.ag (eG m)] [] (fun v bs' => v = .tu [bs (some tU) (formM m), I 0] ∧ bs' = []) := by
  obtain ⟨hb, he, hc, hb2⟩ := hs
  have hmay := mayMsg_ac m he hc
  rw [h] at hmay
  have h0 : addS (false, []) [m.kind] = (false, [m.kind]) := addS_ok (by simp)
  have hby := wbyte_ac (false, []) m.kind (by simp)
  rw [h0] at hby
  have hp := put_ok h
  rw [hp] at hput
  have hd := wdoneO_ac (formM m) (formM_length h)
  refine AC.N Try.func23 Try.ntmps23 ?_
  intro X
  simp only [nx, Nat.reduceAdd, Nat.reduceSub, BEq.rfl]
  repeat' (first
    | ((first
    | ((with_reducible apply AP.k_any); first
             | refine AP.S ?_
      )
    | ((with_reducible apply AP.k_any); refine AP.C (hmay) ?_)
    | ((with_reducible apply AP.k_any); refine AP.C (hof) ?_)
    )
      <;> (try simp only [nx, Nat.reduceAdd, Nat.reduceSub, BEq.rfl]))
    | ((with_reducible apply AP.k_nil); first
        | (refine AP.nil (hQ' _ ?_); clear hQ' Q')
        | refine AP.nil ?_)
    | ((with_reducible apply CP.k_reg); refine cp_regG fun Q' hQ' => ?_)
      | (with_reducible apply CP.k_reg1; refine cp_region ?_)
      | ((with_reducible apply CP.k_cond); first | refine cp_condT rfl ?_ | refine cp_condF rfl ?_ | refine cp_cond rfl (fun hc => ?_) (fun hc => ?_))
      | refine CP.go ?_
      | (simp only [List.append_eq, List.cons_append, List.nil_append]))
  refine CP.gh gh_slot ?_; simp only [nx, Nat.reduceAdd, Nat.reduceSub, BEq.rfl]
  refine CP.gh gh_slot ?_; simp only [nx, Nat.reduceAdd, Nat.reduceSub, BEq.rfl]
  refine CP.gh gh_slot ?_; simp only [nx, Nat.reduceAdd, Nat.reduceSub, BEq.rfl]
  repeat' (first
    | ((first
    | ((with_reducible apply AP.k_any); first
             | refine AP.S ?_
      )
    | ((with_reducible apply AP.k_any); refine AP.CB [] 1 (wnew_ac) ?_)
    | ((with_reducible apply AP.k_any); refine AP.CB [(2, 1)] 0 (hby) ?_)
    | ((with_reducible apply AP.k_any); refine ap_callB 0 [(2, 1)] rfl rfl (fn := f3) rfl (hput) (by (repeat' (first | exact PasC.nil | apply PasC.nil | apply PasC.cons | apply PasV.leaf rfl | apply PasV.nl | apply PasV.bp rfl | apply PasV.lend rfl rfl rfl | apply PasV.lend rfl rfl (ro_B _) | apply PasV.lend rfl rfl (ro_M _) | apply PasV.lend rfl rfl (ro_E _ _) | apply PasV.lend rfl rfl (ro_I _) | apply PasV.mv rfl | apply PasV.ag | apply PasV.fn | exact PasV.fs | apply PasV.any))) (by (repeat' (first | exact Out.nil | apply Out.cons rfl | exact ClsC.nil | apply ClsC.nl | apply ClsC.leaf rfl | apply ClsC.hd rfl | apply ClsC.fn | apply ClsC.fz rfl (ro_B _) | apply ClsC.fz rfl (ro_M _) | apply ClsC.fz rfl (ro_E _ _) | apply ClsC.fz rfl rfl))) rfl (by (repeat' (first | exact Bk.nil | apply Bk.cons rfl rfl rfl))) (by (repeat' (first | exact RnV.leaf rfl | exact RnC.nil | apply RnC.cons | apply RnV.ag | apply RnV.tu | exact RnV.bp rfl))) rfl ?_)
    | ((with_reducible apply AP.k_any); refine AP.CB [(2, 1)] 0 (hd) ?_)
    | ((with_reducible apply DW.k_any); first
                | refine DW.R ?_ | refine DW.R' ?_ | refine DW.W ?_ | refine DW.W' ?_
                | (refine DW.known rfl ?_; (with_reducible first | apply DW.st 2 | apply DW.stN 2); (iterate 2 (focus (simp only [ft, nm, Nat.reduceAdd, Nat.reduceBEq, List.getElem?_cons_zero, List.getElem?_cons_succ]; exact rfl))); (focus (intro X V; simp only [ft, nm, Nat.reduceAdd, Nat.reduceBEq]; (try (refine AP.Y ?_; dsimp only)); (first | ((with_reducible apply AP.k_any); refine AP.CB [] 1 (wnew_ac) ?_) | ((with_reducible apply AP.k_any); refine AP.CB [(2, 1)] 0 (hby) ?_) | ((with_reducible apply AP.k_any); refine ap_callB 0 [(2, 1)] rfl rfl (fn := f3) rfl (hput) (by (repeat' (first | exact PasC.nil | apply PasC.nil | apply PasC.cons | apply PasV.leaf rfl | apply PasV.nl | apply PasV.bp rfl | apply PasV.lend rfl rfl rfl | apply PasV.lend rfl rfl (ro_B _) | apply PasV.lend rfl rfl (ro_M _) | apply PasV.lend rfl rfl (ro_E _ _) | apply PasV.lend rfl rfl (ro_I _) | apply PasV.mv rfl | apply PasV.ag | apply PasV.fn | exact PasV.fs | apply PasV.any))) (by (repeat' (first | exact Out.nil | apply Out.cons rfl | exact ClsC.nil | apply ClsC.nl | apply ClsC.leaf rfl | apply ClsC.hd rfl | apply ClsC.fn | apply ClsC.fz rfl (ro_B _) | apply ClsC.fz rfl (ro_M _) | apply ClsC.fz rfl (ro_E _ _) | apply ClsC.fz rfl rfl))) rfl (by (repeat' (first | exact Bk.nil | apply Bk.cons rfl rfl rfl))) (by (repeat' (first | exact RnV.leaf rfl | exact RnC.nil | apply RnC.cons | apply RnV.ag | apply RnV.tu | exact RnV.bp rfl))) rfl ?_) | ((with_reducible apply AP.k_any); refine AP.CB [(2, 1)] 0 (hd) ?_) | fail); (try simp only [nx, Nat.reduceAdd, Nat.reduceSub, BEq.rfl]); refine AP.nil ?_; (first | refine ⟨trivial, rfl, ?_⟩ | refine ⟨rfl, rfl, ?_⟩); (repeat' (first | exact Mg.nil | apply Mg.keep rfl | apply Mg.take rfl)); done)); (focus (refine Exists.intro (fun _ => 0) ?_; apply Exists.intro; (repeat' (first | exact Mg.nil | apply Mg.keep rfl | apply Mg.take rfl)); done)))
                | ((fail_if_success refine DW.known rfl ?_); refine DW.G (fun hg => ?_) (fun hg => ?_))
    )
    )
      <;> (try simp only [nx, Nat.reduceAdd, Nat.reduceSub, BEq.rfl]))
    | ((with_reducible apply AP.k_nil); first
        | (refine AP.nil (hQ' _ ?_); clear hQ' Q')
        | refine AP.nil ?_)
    | ((with_reducible apply CP.k_drw); refine cp_drwX fun Q' hQ' => ?_)
    | ((with_reducible apply CP.k_drw1); refine cp_drawX ?_)
    | ((with_reducible apply DW.k_nil); refine DW.nl ?_; first | (refine hQ' _ ?_; clear hQ' Q') | skip)
    | ((with_reducible apply CP.k_reg); refine cp_regG fun Q' hQ' => ?_)
      | (with_reducible apply CP.k_reg1; refine cp_region ?_)
      | ((with_reducible apply CP.k_cond); first | refine cp_condT rfl ?_ | refine cp_condF rfl ?_ | refine cp_cond rfl (fun hc => ?_) (fun hc => ?_))
      | refine CP.go ?_
      | (simp only [List.append_eq, List.cons_append, List.nil_append]))
  (refine RetQ.B [] ?_; (try dsimp only [resV, List.getD_cons_succ, List.getD_cons_zero]); (exact ⟨rfl, rfl⟩))
theorem print_ac (m : Msg) (hs : m.small) : AC Try.prog 23 [.ag (eG m)] [] (fun v bs' => v = .tu [bs (some tU) (printS m).1, I (printS m).2] ∧ bs' = []) := by
  by_cases h : mayM m = true
  · rw [printS, if_pos h]
    have h0 : addS (false, []) [m.kind] = (false, [m.kind]) := addS_ok (by simp)
    have hl : ((false, [m.kind]) : Bool × List UInt8).2.length ≤ 65536 := by simp
    rcases kind_cases m.kind with hk | hk | hk | hk | hk | hk | hk
    · exact printG_ac _ _ _ _ m hs h (of1_ac m hk) (by rw [h0]; simpa only [putMsg, hk] using kput3_ac _ m hl hs.1)
    · exact printG_ac _ _ _ _ m hs h (of2_ac m hk) (by rw [h0]; simpa only [putMsg, hk] using eput3_ac _ m hl hs.2.1 hs.2.2.2)
    · exact printG_ac _ _ _ _ m hs h (of3_ac m hk) (by rw [h0]; simpa only [putMsg, hk] using kput7_ac _ m hl)
    · exact printG_ac _ _ _ _ m hs h (of4_ac m hk) (by rw [h0]; simpa only [putMsg, hk] using kput11_ac _ m hl hs.2.2.1)
    · exact printG_ac _ _ _ _ m hs h (of5_ac m hk) (by rw [h0]; simpa only [putMsg, hk] using kput15_ac _ m hl)
    · exact printG_ac _ _ _ _ m hs h (of6_ac m hk) (by rw [h0]; simpa only [putMsg, hk] using kput3_ac _ m hl hs.1)
    · rw [may_no m hk] at h; cases h
  · rw [printS, if_neg h]
    have hmay := mayMsg_ac m hs.2.1 hs.2.2.1
    rw [show mayM m = false by simpa using h] at hmay
    refine AC.N Try.func23 Try.ntmps23 ?_
    intro X
    simp only [nx, Nat.reduceAdd, Nat.reduceSub, BEq.rfl]
    repeat' (first
      | ((first
      | ((with_reducible apply AP.k_any); first
               | refine AP.S ?_
        )
      | ((with_reducible apply AP.k_any); refine AP.C (hmay) ?_)
      )
        <;> (try simp only [nx, Nat.reduceAdd, Nat.reduceSub, BEq.rfl]))
      | ((with_reducible apply AP.k_nil); first
          | (refine AP.nil (hQ' _ ?_); clear hQ' Q')
          | refine AP.nil ?_)
      | ((with_reducible apply CP.k_reg); refine cp_regG fun Q' hQ' => ?_)
        | (with_reducible apply CP.k_reg1; refine cp_region ?_)
        | ((with_reducible apply CP.k_cond); first | refine cp_condT rfl ?_ | refine cp_condF rfl ?_ | refine cp_cond rfl (fun hc => ?_) (fun hc => ?_))
        | refine CP.go ?_
        | (simp only [List.append_eq, List.cons_append, List.nil_append]))
    (exact RetQ.A [] (by exact ⟨rfl, rfl⟩))
end Go.Proofs.Ytpdegeknhapgmaa

namespace Go.Proofs.Ytpdegeknhapgmaa
set_option linter.unusedVariables false
set_option linter.unusedSimpArgs false
set_option maxHeartbeats 8000000
open Go.RowKit
set_option maxRecDepth 100000
def beN (l : List UInt8) : Nat := l.foldl (fun x c => 256 * x + c.toNat) 0
theorem beN_snoc (l : List UInt8) (c : UInt8) : beN (l ++ [c]) = 256 * beN l + c.toNat := by simp [beN, List.foldl_append]
theorem beN_lt (l : List UInt8) : beN l < 256 ^ l.length := by
  have h : ∀ (l : List UInt8) (x : Nat), l.foldl (fun x c => 256 * x + c.toNat) x + 1 ≤ (x + 1) * 256 ^ l.length := by
    intro l
    induction l with
    | nil => intro x; simp
    | cons c l ih =>
      intro x
      refine Nat.le_trans (ih _) ?_
      rw [List.length_cons, Nat.pow_succ', ← Nat.mul_assoc]
      refine Nat.mul_le_mul_right _ ?_
      have := c.toNat_lt
      show 256 * x + c.toNat + 1 ≤ _
      omega
  have := h l 0
  simp only [beN]
  omega
def loadS (b : List UInt8) (p : Int) (n : Nat) : Nat × Bool := if p < 0 ∨ (b.length : Int) - n < p then (0, false) else (beN ((b.drop p.toNat).take n), true)
theorem or8 (x c : Nat) (hx : x < 2 ^ 56) (hc : c < 256) : IntKind.u64.wrap (BitVec.toNat (BitVec.ofInt 64 (IntKind.u64.wrap ((x : Int) * 2 ^ 8)) ||| BitVec.ofInt 64 (IntKind.u64.wrap (c : Int)))) = ((256 * x + c : Nat) : Int) := by
  have e1 : IntKind.u64.wrap ((x : Int) * 2 ^ 8) = ((x * 256 : Nat) : Int) := by simp [IntKind.wrap, IntKind.bits, IntKind.signed]; omega
  have e2 : IntKind.u64.wrap (c : Int) = (c : Int) := by simp [IntKind.wrap, IntKind.bits, IntKind.signed]; omega
  rw [e1, e2, BitVec.ofInt_natCast, BitVec.ofInt_natCast, BitVec.toNat_or, BitVec.toNat_ofNat, BitVec.toNat_ofNat, Nat.mod_eq_of_lt (by omega), Nat.mod_eq_of_lt (by omega)]
  have e3 : x * 256 ||| c = 256 * x + c := by
    have := Nat.shiftLeft_add_eq_or_of_lt (i := 8) (b := c) hc x
    rw [Nat.shiftLeft_eq, show (2 : Nat) ^ 8 = 256 from rfl] at this
    omega
  rw [e3]
  simp [IntKind.wrap, IntKind.bits, IntKind.signed]; omega
theorem or8' (x c : Nat) (hx : x < 2 ^ 56) (hc : c < 256) : IntKind.u64.wrap (BitVec.toNat (BitVec.ofInt IntKind.u64.bits (IntKind.u64.wrap ((x : Int) * 2 ^ min (Int.toNat 8) IntKind.u64.bits)) ||| BitVec.ofInt IntKind.u64.bits (IntKind.u64.wrap (c : Int)))) = ((256 * x + c : Nat) : Int) := or8 x c hx hc
theorem load_ac (b : List UInt8) (p : Int) (n : Nat) (hn : n ≤ 8) (hb : b.length ≤ 100000000) (hp : p ≤ 200000000) (hp2 : -1000000 ≤ p) :
    AC Try.prog 116 [bs none b, I p, I n] [] (fun v bs' => v = .tu [.sc (.int .u64 ((loadS b p n).1 : Int)), B (loadS b p n).2] ∧ bs' = []) := by
  have hw0 : IntKind.i64.wrap ((b.length : Int) - n) = (b.length : Int) - n := wrap_i64 (by omega) (by omega)
  have hw1 : IntKind.i64.wrap (p + n) = p + n := wrap_i64 (by omega) (by omega)
  by_cases hs : p < 0 ∨ (b.length : Int) - n < p
  · have e0 : loadS b p n = (0, false) := by simp [loadS, hs]
    rw [e0]
    refine AC.N Try.func116 Try.ntmps116 ?_
    intro X
    simp only [nx, Nat.reduceAdd, Nat.reduceSub, BEq.rfl]
    repeat' (first
      | ((first
      | ((with_reducible apply AP.k_any); first
               | refine AP.S ?_
               | refine AP.E ?_
               | (refine AP.Y ?_; dsimp only) | refine AP.G (fun hg => ?_) (fun hg => ?_)
        )
      
      )
        <;> (try simp only [nx, Nat.reduceAdd, Nat.reduceSub, BEq.rfl]))
      | ((with_reducible apply AP.k_nil); first
          | (refine AP.nil (hQ' _ ?_); clear hQ' Q')
          | refine AP.nil ?_)
      | ((with_reducible apply CP.k_reg); refine cp_regG fun Q' hQ' => ?_)
        | (with_reducible apply CP.k_reg1; refine cp_region ?_)
        | ((with_reducible apply CP.k_cond); first | refine cp_condT rfl ?_ | refine cp_condF rfl ?_ | refine cp_cond rfl (fun hc => ?_) (fun hc => ?_))
        | refine CP.go ?_
        | (simp only [List.append_eq, List.cons_append, List.nil_append]))
    all_goals first
      | (refine RetQ.B [] ?_; (try dsimp only [resV, List.getD_cons_succ, List.getD_cons_zero]); (exact ⟨rfl, rfl⟩))
      | (exfalso; simp [hw0] at *; omega)
  · have e0 : loadS b p n = (beN ((b.drop p.toNat).take n), true) := by simp [loadS, hs]
    rw [e0]
    obtain ⟨q, rfl⟩ : ∃ q : Nat, p = q := ⟨p.toNat, by omega⟩
    have g1 : (q : Int) ≤ IntKind.i64.wrap ((q : Int) + n) := by rw [hw1]; omega
    have g2 : IntKind.i64.wrap ((q : Int) + n) ≤ ((b.map eB).length : Int) := by rw [hw1]; simp; omega
    have e2 : (b.drop q).take (((q : Int) + n).toNat - q) = (b.drop q).take n := by rw [show ((q : Int) + n).toNat - q = n by omega]
    have hl : ((b.drop q).take n).length = n := by (rw [List.length_take, List.length_drop]; omega)
    refine AC.N Try.func116 Try.ntmps116 ?_
    intro X
    simp only [nx, Nat.reduceAdd, Nat.reduceSub, BEq.rfl]
    repeat' (first
      | ((first
      | ((with_reducible apply AP.k_any); first
               | refine AP.S ?_
               | refine AP.E ?_
               | (refine AP.Y ?_; dsimp only) | refine AP.G (fun hg => ?_) (fun hg => ?_)
        )
      
      )
        <;> (try simp only [nx, Nat.reduceAdd, Nat.reduceSub, BEq.rfl]))
      | ((with_reducible apply AP.k_nil); first
          | (refine AP.nil (hQ' _ ?_); clear hQ' Q')
          | refine AP.nil ?_)
      | ((with_reducible apply CP.k_reg); refine cp_regG fun Q' hQ' => ?_)
        | (with_reducible apply CP.k_reg1; refine cp_region ?_)
        | ((with_reducible apply CP.k_cond); first | refine cp_condT rfl ?_ | refine cp_condF rfl ?_ | refine cp_cond rfl (fun hc => ?_) (fun hc => ?_))
        | refine CP.go ?_
        | (simp only [List.append_eq, List.cons_append, List.nil_append]))
    all_goals first
      | (exfalso; simp [hw0] at *; omega)
      | skip
    · simp only [hw1, Int.toNat_natCast, e2]
      generalize (b.drop q).take n = c at hl e2 ⊢
      refine cp_loopS [8, 10, 28, 29, 30, 31, 32, 33, 34, 35, 36, 37] (fun k : Nat => c.length - k) (fun k => k ≤ c.length) (fun k => [(28, I k), (8, .sc (.int .u64 (beN (c.take k) : Int)))]) (fun _ => []) 0 (Nat.zero_le _) (by exact Gh.W) ?_
      rintro k hk
      simp only [setT, deT, setB, List.set_cons_succ, List.set_cons_zero]
      by_cases hlt : k < c.length
      · have hw : IntKind.i64.wrap ((k : Int) + 1) = ((k + 1 : Nat) : Int) := wrap_i64 (by omega) (by omega)
        have hb1 := beN_lt (c.take k)
        have hb2 : 256 ^ (c.take k).length ≤ 256 ^ 7 := Nat.pow_le_pow_right (by omega) (by simp; omega)
        have ho := or8' (beN (c.take k)) c[k].toNat (by omega) c[k].toNat_lt
        have hsn : beN (c.take (k + 1)) = 256 * beN (c.take k) + c[k].toNat := by rw [List.take_succ_eq_append_getElem hlt, beN_snoc]
        repeat' (first
          | ((first
          | ((with_reducible apply AP.k_any); first
                   | refine AP.S ?_
                   | refine AP.E ?_
                   | (refine AP.Y ?_; dsimp only) | refine AP.G (fun hg => ?_) (fun hg => ?_)
            )
          
          )
            <;> (try simp only [nx, Nat.reduceAdd, Nat.reduceSub, BEq.rfl]))
          | ((with_reducible apply AP.k_nil); first
              | (refine AP.nil (hQ' _ ?_); clear hQ' Q')
              | refine AP.nil ?_)
          | ((with_reducible apply CP.k_reg); refine cp_regG fun Q' hQ' => ?_)
            | (with_reducible apply CP.k_reg1; refine cp_region ?_)
            | ((with_reducible apply CP.k_cond); first | refine cp_condT rfl ?_ | refine cp_condF rfl ?_ | refine cp_cond rfl (fun hc => ?_) (fun hc => ?_))
            | refine CP.go ?_
            | (simp only [List.append_eq, List.cons_append, List.nil_append]))
        · simp only [hw]
          refine ⟨k + 1, by omega, by omega, ?_⟩
          rw [hsn, ← ho]
          exact Gh.W
        · exfalso; simp at *; omega
      · obtain rfl : k = c.length := by omega
        rw [List.take_length]
        repeat' (first
          | ((first
          | ((with_reducible apply AP.k_any); first
                   | refine AP.S ?_
                   | refine AP.E ?_
                   | (refine AP.Y ?_; dsimp only) | refine AP.G (fun hg => ?_) (fun hg => ?_)
            )
          
          )
            <;> (try simp only [nx, Nat.reduceAdd, Nat.reduceSub, BEq.rfl]))
          | ((with_reducible apply AP.k_nil); first
              | (refine AP.nil (hQ' _ ?_); clear hQ' Q')
              | refine AP.nil ?_)
          | ((with_reducible apply CP.k_reg); refine cp_regG fun Q' hQ' => ?_)
            | (with_reducible apply CP.k_reg1; refine cp_region ?_)
            | ((with_reducible apply CP.k_cond); first | refine cp_condT rfl ?_ | refine cp_condF rfl ?_ | refine cp_cond rfl (fun hc => ?_) (fun hc => ?_))
            | refine CP.go ?_
            | (simp only [List.append_eq, List.cons_append, List.nil_append]))
        all_goals first
          | (exfalso; simp at *; done)
          | (exfalso; simp at *; omega)
          | (refine RetQ.B [] ?_; (try dsimp only [resV, List.getD_cons_succ, List.getD_cons_zero]); (exact ⟨rfl, rfl⟩))
end Go.Proofs.Ytpdegeknhapgmaa

namespace Go.Proofs.Ytpdegeknhapgmaa
set_option linter.unusedVariables false
set_option linter.unusedSimpArgs false
set_option maxHeartbeats 8000000
open Go.RowKit
set_option maxRecDepth 100000
abbrev tRd : TypeId := 100
abbrev rB (st : Int × List UInt8) : Bx := .c tRd [B true, bs none st.2, I st.1]
def newR (b : List UInt8) : Int × List UInt8 := if 65536 < b.length then (3, []) else (0, b)
theorem rnew_ac (b : List UInt8) (hb : b.length ≤ 100000000) : AC Try.prog 32 [bs none b] [] (fun v bs' => v = .bp 0 0 0 ∧ bs' = [rB (newR b)]) := by
  by_cases h : 65536 < b.length
  · have e : newR b = (3, []) := by simp [newR, h]
    rw [e]
    refine AC.N Try.func32 Try.ntmps32 ?_
    intro X
    simp only [nx, Nat.reduceAdd, Nat.reduceSub, BEq.rfl]
    repeat' (first
      | ((first
      | ((with_reducible apply AP.k_any); first
               | refine AP.S ?_
        )
      
      )
        <;> (try simp only [nx, Nat.reduceAdd, Nat.reduceSub, BEq.rfl]))
      | ((with_reducible apply AP.k_nil); first
          | (refine AP.nil (hQ' _ ?_); clear hQ' Q')
          | refine AP.nil ?_)
      | ((with_reducible apply CP.k_reg); refine cp_regG fun Q' hQ' => ?_)
        | (with_reducible apply CP.k_reg1; refine cp_region ?_)
        | ((with_reducible apply CP.k_cond); first | refine cp_condT rfl ?_ | refine cp_condF rfl ?_ | refine cp_cond rfl (fun hc => ?_) (fun hc => ?_))
        | refine CP.go ?_
        | (simp only [List.append_eq, List.cons_append, List.nil_append]))
    · (exact RetQ.A [(0, 1)] (by exact ⟨rfl, rfl⟩))
    · exfalso; simp at *; omega
  · have e : newR b = (0, b) := by simp [newR, h]
    have hcat := (wcat_ac [b] (by simp) (by simp; omega)).ro (r2 := bs none b) (by simp [AV.ro, ro_B])
    rw [e]
    refine AC.N Try.func32 Try.ntmps32 ?_
    intro X
    simp only [nx, Nat.reduceAdd, Nat.reduceSub, BEq.rfl]
    repeat' (first
      | ((first
      | ((with_reducible apply AP.k_any); first
               | refine AP.Z ?_
        )
      | ((with_reducible apply AP.k_any); refine AP.C (hcat) ?_)
        | ((with_reducible apply AP.k_any); refine AP.gh (gh_fz (b := 0) (u := 1) rfl rfl (by (repeat' (first | exact FzC.nil | apply FzC.cons | exact FzV.hd | apply FzV.ag | exact FzV.same))) (by (repeat' (first | exact FzB.nil | apply FzB.c | apply FzB.same | exact FzC.nil | apply FzC.cons | exact FzV.hd | apply FzV.ag | exact FzV.same)))) ?_; first | simp only [roE, roC, AV.ro, ro_B, ro_M, ro_E] | simp only [roE, roC, AV.ro, ro_B])
      )
        <;> (try simp only [nx, Nat.reduceAdd, Nat.reduceSub, BEq.rfl]))
      | ((with_reducible apply AP.k_nil); first
          | (refine AP.nil (hQ' _ ?_); clear hQ' Q')
          | refine AP.nil ?_)
      | ((with_reducible apply CP.k_reg); refine cp_regG fun Q' hQ' => ?_)
        | (with_reducible apply CP.k_reg1; refine cp_region ?_)
        | ((with_reducible apply CP.k_cond); first | refine cp_condT rfl ?_ | refine cp_condF rfl ?_ | refine cp_cond rfl (fun hc => ?_) (fun hc => ?_))
        | refine CP.go ?_
        | (simp only [List.append_eq, List.cons_append, List.nil_append]))
    · exfalso; simp at *; omega
    · (exact RetQ.A [(0, 2)] (by exact ⟨rfl, rfl⟩))
theorem fine_ac (st : Int × List UInt8) : AC Try.prog 110 [.bp 0 0 0] [rB st] (fun v bs' => v = B (st.1 == 0) ∧ bs' = [rB st]) := by
  refine AC.N Try.func110 Try.ntmps110 ?_
  intro X
  simp only [nx, Nat.reduceAdd, Nat.reduceSub, BEq.rfl]
  repeat' (first
    | ((first
    | ((with_reducible apply AP.k_any); first
             | refine AP.S ?_
             | (refine AP.Y ?_; dsimp only) | refine AP.G (fun hg => ?_) (fun hg => ?_)
             | (refine AP.V (fun c hnil => ?_); simp only [nz])
      )
    
    )
      <;> (try simp only [nx, Nat.reduceAdd, Nat.reduceSub, BEq.rfl]))
    | ((with_reducible apply AP.k_nil); first
        | (refine AP.nil (hQ' _ ?_); clear hQ' Q')
        | refine AP.nil ?_)
    | ((with_reducible apply CP.k_reg); refine cp_regG fun Q' hQ' => ?_)
      | (with_reducible apply CP.k_reg1; refine cp_region ?_)
      | ((with_reducible apply CP.k_cond); first | refine cp_condT rfl ?_ | refine cp_condF rfl ?_ | refine cp_cond rfl (fun hc => ?_) (fun hc => ?_))
      | refine CP.go ?_
      | (simp only [List.append_eq, List.cons_append, List.nil_append]))
  (exact RetQ.A [(0, 0)] (by exact ⟨rfl, rfl⟩))
theorem rbad_ac (st : Int × List UInt8) : AC Try.prog 111 [.bp 0 0 0] [rB st] (fun v bs' => v = .tu [] ∧ bs' = [rB (40, [])]) := by
  refine AC.N Try.func111 Try.ntmps111 ?_
  intro X
  simp only [nx, Nat.reduceAdd, Nat.reduceSub, BEq.rfl]
  repeat' (first
    | ((first
    | ((with_reducible apply AP.k_any); first
             | refine AP.S ?_
      )
    
    )
      <;> (try simp only [nx, Nat.reduceAdd, Nat.reduceSub, BEq.rfl]))
    | ((with_reducible apply AP.k_nil); first
        | (refine AP.nil (hQ' _ ?_); clear hQ' Q')
        | refine AP.nil ?_)
    | ((with_reducible apply CP.k_reg); refine cp_regG fun Q' hQ' => ?_)
      | (with_reducible apply CP.k_reg1; refine cp_region ?_)
      | ((with_reducible apply CP.k_cond); first | refine cp_condT rfl ?_ | refine cp_condF rfl ?_ | refine cp_cond rfl (fun hc => ?_) (fun hc => ?_))
      | refine CP.go ?_
      | (simp only [List.append_eq, List.cons_append, List.nil_append]))
  (exact RetQ.A [(0, 0)] (by exact ⟨rfl, rfl⟩))
def takeS {α : Type} (z : α) (f : List UInt8 → α × Bool) (n : Int) (st : Int × List UInt8) : α × (Int × List UInt8) :=
  if st.1 ≠ 0 then (z, st) else if n < 0 ∨ (st.2.length : Int) < n then (z, (40, []))
  else if (f (st.2.take n.toNat)).2 = true then ((f (st.2.take n.toNat)).1, (0, st.2.drop n.toNat)) else (z, (40, []))
theorem take_map_drop (b : List UInt8) (n : Nat) (m : Nat) (h : b.length ≤ m) : (List.drop n (b.map eB)).take (m - n) = (b.drop n).map eB := by
  rw [List.map_drop, List.take_of_length_le (by simp; omega)]
theorem take1_ac  (f : Nat) (g : List UInt8 → UInt8 × Bool) (n : Int) (st : Int × List UInt8) (hst : st.2.length ≤ 100000000) (hf : ∀ b : List UInt8, b.length = n.toNat → b.length ≤ st.2.length → AC Try.prog f [bs none b] [] (fun v bs' => v = .tu [U (g b).1, B (g b).2] ∧ bs' = [])) :
    AC Try.prog 81 [.bp 0 0 0, I n, .fn f []] [rB st] (fun v bs' => v = U (takeS (0 : UInt8) g n st).1 ∧ bs' = [rB (takeS (0 : UInt8) g n st).2]) := by
  obtain ⟨e, b⟩ := st
  by_cases he : e = 0
  · subst he
    by_cases hn : n < 0 ∨ (b.length : Int) < n
    · have ht : takeS (0 : UInt8) g n (0, b) = ((0 : UInt8), (40, [])) := by simp only [takeS, hn]; simp
      rw [ht]
      refine AC.N Try.func81 Try.ntmps81 ?_
      intro X
      simp only [nx, Nat.reduceAdd, Nat.reduceSub, BEq.rfl]
      repeat' (first
        | ((first
        | ((with_reducible apply AP.k_any); first
                 | refine AP.S ?_
                 | (refine AP.Y ?_; dsimp only) | refine AP.G (fun hg => ?_) (fun hg => ?_)
          )
        | ((with_reducible apply AP.k_any); refine AP.CB [(0, 0)] 0 (fine_ac (0, b)) ?_)
            | ((with_reducible apply AP.k_any); refine AP.CB [(0, 0)] 0 (rbad_ac (0, b)) ?_)
        )
          <;> (try simp only [nx, Nat.reduceAdd, Nat.reduceSub, BEq.rfl]))
        | ((with_reducible apply AP.k_nil); first
            | (refine AP.nil (hQ' _ ?_); clear hQ' Q')
            | refine AP.nil ?_)
        | ((with_reducible apply CP.k_reg); refine cp_regG fun Q' hQ' => ?_)
          | (with_reducible apply CP.k_reg1; refine cp_region ?_)
          | ((with_reducible apply CP.k_cond); first | refine cp_condT rfl ?_ | refine cp_condF rfl ?_ | refine cp_cond rfl (fun hc => ?_) (fun hc => ?_))
          | refine CP.go ?_
          | (simp only [List.append_eq, List.cons_append, List.nil_append]))
      all_goals first
        | (exfalso; simp at *; done)
        | (exfalso; simp at *; omega)
        | (exact RetQ.A [(0, 0)] (by exact ⟨rfl, rfl⟩))
    · have hl : (b.take n.toNat).length = n.toNat := by simp; omega
      have hf' := hf (b.take n.toNat) hl (by rw [List.length_take]; exact Nat.min_le_right _ _)
      have htk : List.take (b.length - n.toNat) (List.drop n.toNat b) = List.drop n.toNat b := List.take_of_length_le (by simp)
      have hn0 : 0 ≤ n := by omega
      have hn1 : n ≤ (b.length : Int) := by omega
      have hm : n ≤ ((b.map eB).length : Int) := by simp; omega
      have ht : takeS (0 : UInt8) g n (0, b) = if (g (b.take n.toNat)).2 = true then ((g (b.take n.toNat)).1, (0, b.drop n.toNat)) else ((0 : UInt8), (40, [])) := by simp only [takeS, hn]; simp
      rw [ht]
      cases hg2 : (g (b.take n.toNat)).2 with
      | true =>
        rw [hg2] at hf'
        simp only [if_true]
        refine AC.N Try.func81 Try.ntmps81 ?_
        intro X
        simp only [nx, Nat.reduceAdd, Nat.reduceSub, BEq.rfl]
        repeat' (first
          | ((first
          | ((with_reducible apply AP.k_any); first
                   | refine AP.S ?_
                   | (refine AP.Y ?_; dsimp only) | refine AP.G (fun hg => ?_) (fun hg => ?_)
            )
          | ((with_reducible apply AP.k_any); refine AP.CB [(0, 0)] 0 (fine_ac (0, b)) ?_)
                | ((with_reducible apply AP.k_any); refine ap_callX rfl rfl (fn := f) rfl hf' (by (repeat' (first | exact PasC.nil | apply PasC.nil | apply PasC.cons | apply PasV.leaf rfl | apply PasV.nl | apply PasV.bp rfl | apply PasV.lend rfl rfl rfl | apply PasV.lend rfl rfl (ro_B _) | apply PasV.lend rfl rfl (ro_M _) | apply PasV.lend rfl rfl (ro_E _ _) | apply PasV.lend rfl rfl (ro_I _) | apply PasV.mv rfl | apply PasV.ag | apply PasV.fn | exact PasV.fs | apply PasV.any))) rfl rfl ?_)
                | ((with_reducible apply AP.k_any); refine AP.CB [(0, 0)] 0 (rbad_ac (0, b)) ?_)
          )
            <;> (try simp only [nx, Nat.reduceAdd, Nat.reduceSub, BEq.rfl]))
          | ((with_reducible apply AP.k_nil); first
              | (refine AP.nil (hQ' _ ?_); clear hQ' Q')
              | refine AP.nil ?_)
          | ((with_reducible apply CP.k_reg); refine cp_regG fun Q' hQ' => ?_)
            | (with_reducible apply CP.k_reg1; refine cp_region ?_)
            | ((with_reducible apply CP.k_cond); first | refine cp_condT rfl ?_ | refine cp_condF rfl ?_ | refine cp_cond rfl (fun hc => ?_) (fun hc => ?_))
            | refine CP.go ?_
            | (simp only [List.append_eq, List.cons_append, List.nil_append]))
        all_goals first
          | (exfalso; simp at *; done)
          | (exfalso; simp at *; omega)
          | (simp only [htk]
             (exact RetQ.A [(0, 0)] (by exact ⟨rfl, rfl⟩)))
      | false =>
        rw [hg2] at hf'
        simp only [Bool.false_eq_true, if_false]
        refine AC.N Try.func81 Try.ntmps81 ?_
        intro X
        simp only [nx, Nat.reduceAdd, Nat.reduceSub, BEq.rfl]
        repeat' (first
          | ((first
          | ((with_reducible apply AP.k_any); first
                   | refine AP.S ?_
                   | (refine AP.Y ?_; dsimp only) | refine AP.G (fun hg => ?_) (fun hg => ?_)
            )
          | ((with_reducible apply AP.k_any); refine AP.CB [(0, 0)] 0 (fine_ac (0, b)) ?_)
                | ((with_reducible apply AP.k_any); refine ap_callX rfl rfl (fn := f) rfl hf' (by (repeat' (first | exact PasC.nil | apply PasC.nil | apply PasC.cons | apply PasV.leaf rfl | apply PasV.nl | apply PasV.bp rfl | apply PasV.lend rfl rfl rfl | apply PasV.lend rfl rfl (ro_B _) | apply PasV.lend rfl rfl (ro_M _) | apply PasV.lend rfl rfl (ro_E _ _) | apply PasV.lend rfl rfl (ro_I _) | apply PasV.mv rfl | apply PasV.ag | apply PasV.fn | exact PasV.fs | apply PasV.any))) rfl rfl ?_)
                | ((with_reducible apply AP.k_any); refine AP.CB [(0, 0)] 0 (rbad_ac (0, b)) ?_)
          )
            <;> (try simp only [nx, Nat.reduceAdd, Nat.reduceSub, BEq.rfl]))
          | ((with_reducible apply AP.k_nil); first
              | (refine AP.nil (hQ' _ ?_); clear hQ' Q')
              | refine AP.nil ?_)
          | ((with_reducible apply CP.k_reg); refine cp_regG fun Q' hQ' => ?_)
            | (with_reducible apply CP.k_reg1; refine cp_region ?_)
            | ((with_reducible apply CP.k_cond); first | refine cp_condT rfl ?_ | refine cp_condF rfl ?_ | refine cp_cond rfl (fun hc => ?_) (fun hc => ?_))
            | refine CP.go ?_
            | (simp only [List.append_eq, List.cons_append, List.nil_append]))
        all_goals first
          | (exfalso; simp at *; done)
          | (exfalso; simp at *; omega)
          | (exact RetQ.A [(0, 0)] (by exact ⟨rfl, rfl⟩))
  · have ht : takeS (0 : UInt8) g n (e, b) = ((0 : UInt8), (e, b)) := by simp [takeS, he]
    have hb : ((e : Int) == 0) = false := by simp [he]
    rw [ht]
    refine AC.N Try.func81 Try.ntmps81 ?_
    intro X
    simp only [nx, Nat.reduceAdd, Nat.reduceSub, BEq.rfl]
    repeat' (first
      | ((first
      | ((with_reducible apply AP.k_any); first
               | refine AP.S ?_
               | (refine AP.Y ?_; dsimp only) | refine AP.G (fun hg => ?_) (fun hg => ?_)
        )
      | ((with_reducible apply AP.k_any); refine AP.CB [(0, 0)] 0 (fine_ac (e, b)) ?_)
      )
        <;> (try simp only [nx, Nat.reduceAdd, Nat.reduceSub, BEq.rfl]))
      | ((with_reducible apply AP.k_nil); first
          | (refine AP.nil (hQ' _ ?_); clear hQ' Q')
          | refine AP.nil ?_)
      | ((with_reducible apply CP.k_reg); refine cp_regG fun Q' hQ' => ?_)
        | (with_reducible apply CP.k_reg1; refine cp_region ?_)
        | ((with_reducible apply CP.k_cond); first | refine cp_condT rfl ?_ | refine cp_condF rfl ?_ | refine cp_cond rfl (fun hc => ?_) (fun hc => ?_))
        | refine CP.go ?_
        | (simp only [List.append_eq, List.cons_append, List.nil_append]))
    all_goals first
      | (exfalso; simp at *; done)
      | (exfalso; simp at *; omega)
      | (exact RetQ.A [(0, 0)] (by exact ⟨rfl, rfl⟩))
theorem take2_ac  (f : Nat) (g : List UInt8 → Bool × Bool) (n : Int) (st : Int × List UInt8) (hst : st.2.length ≤ 100000000) (hf : ∀ b : List UInt8, b.length = n.toNat → b.length ≤ st.2.length → AC Try.prog f [bs none b] [] (fun v bs' => v = .tu [B (g b).1, B (g b).2] ∧ bs' = [])) :
    AC Try.prog 89 [.bp 0 0 0, I n, .fn f []] [rB st] (fun v bs' => v = B (takeS false g n st).1 ∧ bs' = [rB (takeS false g n st).2]) := by
  obtain ⟨e, b⟩ := st
  by_cases he : e = 0
  · subst he
    by_cases hn : n < 0 ∨ (b.length : Int) < n
    · have ht : takeS false g n (0, b) = (false, (40, [])) := by simp only [takeS, hn]; simp
      rw [ht]
      refine AC.N Try.func89 Try.ntmps89 ?_
      intro X
      simp only [nx, Nat.reduceAdd, Nat.reduceSub, BEq.rfl]
      repeat' (first
        | ((first
        | ((with_reducible apply AP.k_any); first
                 | refine AP.S ?_
                 | (refine AP.Y ?_; dsimp only) | refine AP.G (fun hg => ?_) (fun hg => ?_)
          )
        | ((with_reducible apply AP.k_any); refine AP.CB [(0, 0)] 0 (fine_ac (0, b)) ?_)
            | ((with_reducible apply AP.k_any); refine AP.CB [(0, 0)] 0 (rbad_ac (0, b)) ?_)
        )
          <;> (try simp only [nx, Nat.reduceAdd, Nat.reduceSub, BEq.rfl]))
        | ((with_reducible apply AP.k_nil); first
            | (refine AP.nil (hQ' _ ?_); clear hQ' Q')
            | refine AP.nil ?_)
        | ((with_reducible apply CP.k_reg); refine cp_regG fun Q' hQ' => ?_)
          | (with_reducible apply CP.k_reg1; refine cp_region ?_)
          | ((with_reducible apply CP.k_cond); first | refine cp_condT rfl ?_ | refine cp_condF rfl ?_ | refine cp_cond rfl (fun hc => ?_) (fun hc => ?_))
          | refine CP.go ?_
          | (simp only [List.append_eq, List.cons_append, List.nil_append]))
      all_goals first
        | (exfalso; simp at *; done)
        | (exfalso; simp at *; omega)
        | (exact RetQ.A [(0, 0)] (by exact ⟨rfl, rfl⟩))
    · have hl : (b.take n.toNat).length = n.toNat := by simp; omega
      have hf' := hf (b.take n.toNat) hl (by rw [List.length_take]; exact Nat.min_le_right _ _)
      have htk : List.take (b.length - n.toNat) (List.drop n.toNat b) = List.drop n.toNat b := List.take_of_length_le (by simp)
      have hn0 : 0 ≤ n := by omega
      have hn1 : n ≤ (b.length : Int) := by omega
      have hm : n ≤ ((b.map eB).length : Int) := by simp; omega
      have ht : takeS false g n (0, b) = if (g (b.take n.toNat)).2 = true then ((g (b.take n.toNat)).1, (0, b.drop n.toNat)) else (false, (40, [])) := by simp only [takeS, hn]; simp
      rw [ht]
      cases hg2 : (g (b.take n.toNat)).2 with
      | true =>
        rw [hg2] at hf'
        simp only [if_true]
        refine AC.N Try.func89 Try.ntmps89 ?_
        intro X
        simp only [nx, Nat.reduceAdd, Nat.reduceSub, BEq.rfl]
        repeat' (first
          | ((first
          | ((with_reducible apply AP.k_any); first
                   | refine AP.S ?_
                   | (refine AP.Y ?_; dsimp only) | refine AP.G (fun hg => ?_) (fun hg => ?_)
            )
          | ((with_reducible apply AP.k_any); refine AP.CB [(0, 0)] 0 (fine_ac (0, b)) ?_)
                | ((with_reducible apply AP.k_any); refine ap_callX rfl rfl (fn := f) rfl hf' (by (repeat' (first | exact PasC.nil | apply PasC.nil | apply PasC.cons | apply PasV.leaf rfl | apply PasV.nl | apply PasV.bp rfl | apply PasV.lend rfl rfl rfl | apply PasV.lend rfl rfl (ro_B _) | apply PasV.lend rfl rfl (ro_M _) | apply PasV.lend rfl rfl (ro_E _ _) | apply PasV.lend rfl rfl (ro_I _) | apply PasV.mv rfl | apply PasV.ag | apply PasV.fn | exact PasV.fs | apply PasV.any))) rfl rfl ?_)
                | ((with_reducible apply AP.k_any); refine AP.CB [(0, 0)] 0 (rbad_ac (0, b)) ?_)
          )
            <;> (try simp only [nx, Nat.reduceAdd, Nat.reduceSub, BEq.rfl]))
          | ((with_reducible apply AP.k_nil); first
              | (refine AP.nil (hQ' _ ?_); clear hQ' Q')
              | refine AP.nil ?_)
          | ((with_reducible apply CP.k_reg); refine cp_regG fun Q' hQ' => ?_)
            | (with_reducible apply CP.k_reg1; refine cp_region ?_)
            | ((with_reducible apply CP.k_cond); first | refine cp_condT rfl ?_ | refine cp_condF rfl ?_ | refine cp_cond rfl (fun hc => ?_) (fun hc => ?_))
            | refine CP.go ?_
            | (simp only [List.append_eq, List.cons_append, List.nil_append]))
        all_goals first
          | (exfalso; simp at *; done)
          | (exfalso; simp at *; omega)
          | (simp only [htk]
             (exact RetQ.A [(0, 0)] (by exact ⟨rfl, rfl⟩)))
      | false =>
        rw [hg2] at hf'
        simp only [Bool.false_eq_true, if_false]
        refine AC.N Try.func89 Try.ntmps89 ?_
        intro X
        simp only [nx, Nat.reduceAdd, Nat.reduceSub, BEq.rfl]
        repeat' (first
          | ((first
          | ((with_reducible apply AP.k_any); first
                   | refine AP.S ?_
                   | (refine AP.Y ?_; dsimp only) | refine AP.G (fun hg => ?_) (fun hg => ?_)
            )
          | ((with_reducible apply AP.k_any); refine AP.CB [(0, 0)] 0 (fine_ac (0, b)) ?_)
                | ((with_reducible apply AP.k_any); refine ap_callX rfl rfl (fn := f) rfl hf' (by (repeat' (first | exact PasC.nil | apply PasC.nil | apply PasC.cons | apply PasV.leaf rfl | apply PasV.nl | apply PasV.bp rfl | apply PasV.lend rfl rfl rfl | apply PasV.lend rfl rfl (ro_B _) | apply PasV.lend rfl rfl (ro_M _) | apply PasV.lend rfl rfl (ro_E _ _) | apply PasV.lend rfl rfl (ro_I _) | apply PasV.mv rfl | apply PasV.ag | apply PasV.fn | exact PasV.fs | apply PasV.any))) rfl rfl ?_)
                | ((with_reducible apply AP.k_any); refine AP.CB [(0, 0)] 0 (rbad_ac (0, b)) ?_)
          )
            <;> (try simp only [nx, Nat.reduceAdd, Nat.reduceSub, BEq.rfl]))
          | ((with_reducible apply AP.k_nil); first
              | (refine AP.nil (hQ' _ ?_); clear hQ' Q')
              | refine AP.nil ?_)
          | ((with_reducible apply CP.k_reg); refine cp_regG fun Q' hQ' => ?_)
            | (with_reducible apply CP.k_reg1; refine cp_region ?_)
            | ((with_reducible apply CP.k_cond); first | refine cp_condT rfl ?_ | refine cp_condF rfl ?_ | refine cp_cond rfl (fun hc => ?_) (fun hc => ?_))
            | refine CP.go ?_
            | (simp only [List.append_eq, List.cons_append, List.nil_append]))
        all_goals first
          | (exfalso; simp at *; done)
          | (exfalso; simp at *; omega)
          | (exact RetQ.A [(0, 0)] (by exact ⟨rfl, rfl⟩))
  · have ht : takeS false g n (e, b) = (false, (e, b)) := by simp [takeS, he]
    have hb : ((e : Int) == 0) = false := by simp [he]
    rw [ht]
    refine AC.N Try.func89 Try.ntmps89 ?_
    intro X
    simp only [nx, Nat.reduceAdd, Nat.reduceSub, BEq.rfl]
    repeat' (first
      | ((first
      | ((with_reducible apply AP.k_any); first
               | refine AP.S ?_
               | (refine AP.Y ?_; dsimp only) | refine AP.G (fun hg => ?_) (fun hg => ?_)
        )
      | ((with_reducible apply AP.k_any); refine AP.CB [(0, 0)] 0 (fine_ac (e, b)) ?_)
      )
        <;> (try simp only [nx, Nat.reduceAdd, Nat.reduceSub, BEq.rfl]))
      | ((with_reducible apply AP.k_nil); first
          | (refine AP.nil (hQ' _ ?_); clear hQ' Q')
          | refine AP.nil ?_)
      | ((with_reducible apply CP.k_reg); refine cp_regG fun Q' hQ' => ?_)
        | (with_reducible apply CP.k_reg1; refine cp_region ?_)
        | ((with_reducible apply CP.k_cond); first | refine cp_condT rfl ?_ | refine cp_condF rfl ?_ | refine cp_cond rfl (fun hc => ?_) (fun hc => ?_))
        | refine CP.go ?_
        | (simp only [List.append_eq, List.cons_append, List.nil_append]))
    all_goals first
      | (exfalso; simp at *; done)
      | (exfalso; simp at *; omega)
      | (exact RetQ.A [(0, 0)] (by exact ⟨rfl, rfl⟩))
theorem take3_ac  (f : Nat) (g : List UInt8 → Int × Bool) (n : Int) (st : Int × List UInt8) (hst : st.2.length ≤ 100000000) (hf : ∀ b : List UInt8, b.length = n.toNat → b.length ≤ st.2.length → AC Try.prog f [bs none b] [] (fun v bs' => v = .tu [I (g b).1, B (g b).2] ∧ bs' = [])) :
    AC Try.prog 84 [.bp 0 0 0, I n, .fn f []] [rB st] (fun v bs' => v = I (takeS (0 : Int) g n st).1 ∧ bs' = [rB (takeS (0 : Int) g n st).2]) := by
  obtain ⟨e, b⟩ := st
  by_cases he : e = 0
  · subst he
    by_cases hn : n < 0 ∨ (b.length : Int) < n
    · have ht : takeS (0 : Int) g n (0, b) = ((0 : Int), (40, [])) := by simp only [takeS, hn]; simp
      rw [ht]
      refine AC.N Try.func84 Try.ntmps84 ?_
      intro X
      simp only [nx, Nat.reduceAdd, Nat.reduceSub, BEq.rfl]
      repeat' (first
        | ((first
        | ((with_reducible apply AP.k_any); first
                 | refine AP.S ?_
                 | (refine AP.Y ?_; dsimp only) | refine AP.G (fun hg => ?_) (fun hg => ?_)
          )
        | ((with_reducible apply AP.k_any); refine AP.CB [(0, 0)] 0 (fine_ac (0, b)) ?_)
            | ((with_reducible apply AP.k_any); refine AP.CB [(0, 0)] 0 (rbad_ac (0, b)) ?_)
        )
          <;> (try simp only [nx, Nat.reduceAdd, Nat.reduceSub, BEq.rfl]))
        | ((with_reducible apply AP.k_nil); first
            | (refine AP.nil (hQ' _ ?_); clear hQ' Q')
            | refine AP.nil ?_)
        | ((with_reducible apply CP.k_reg); refine cp_regG fun Q' hQ' => ?_)
          | (with_reducible apply CP.k_reg1; refine cp_region ?_)
          | ((with_reducible apply CP.k_cond); first | refine cp_condT rfl ?_ | refine cp_condF rfl ?_ | refine cp_cond rfl (fun hc => ?_) (fun hc => ?_))
          | refine CP.go ?_
          | (simp only [List.append_eq, List.cons_append, List.nil_append]))
      all_goals first
        | (exfalso; simp at *; done)
        | (exfalso; simp at *; omega)
        | (exact RetQ.A [(0, 0)] (by exact ⟨rfl, rfl⟩))
    · have hl : (b.take n.toNat).length = n.toNat := by simp; omega
      have hf' := hf (b.take n.toNat) hl (by rw [List.length_take]; exact Nat.min_le_right _ _)
      have htk : List.take (b.length - n.toNat) (List.drop n.toNat b) = List.drop n.toNat b := List.take_of_length_le (by simp)
      have hn0 : 0 ≤ n := by omega
      have hn1 : n ≤ (b.length : Int) := by omega
      have hm : n ≤ ((b.map eB).length : Int) := by simp; omega
      have ht : takeS (0 : Int) g n (0, b) = if (g (b.take n.toNat)).2 = true then ((g (b.take n.toNat)).1, (0, b.drop n.toNat)) else ((0 : Int), (40, [])) := by simp only [takeS, hn]; simp
      rw [ht]
      cases hg2 : (g (b.take n.toNat)).2 with
      | true =>
        rw [hg2] at hf'
        simp only [if_true]
        refine AC.N Try.func84 Try.ntmps84 ?_
        intro X
        simp only [nx, Nat.reduceAdd, Nat.reduceSub, BEq.rfl]
        repeat' (first
          | ((first
          | ((with_reducible apply AP.k_any); first
                   | refine AP.S ?_
                   | (refine AP.Y ?_; dsimp only) | refine AP.G (fun hg => ?_) (fun hg => ?_)
            )
          | ((with_reducible apply AP.k_any); refine AP.CB [(0, 0)] 0 (fine_ac (0, b)) ?_)
                | ((with_reducible apply AP.k_any); refine ap_callX rfl rfl (fn := f) rfl hf' (by (repeat' (first | exact PasC.nil | apply PasC.nil | apply PasC.cons | apply PasV.leaf rfl | apply PasV.nl | apply PasV.bp rfl | apply PasV.lend rfl rfl rfl | apply PasV.lend rfl rfl (ro_B _) | apply PasV.lend rfl rfl (ro_M _) | apply PasV.lend rfl rfl (ro_E _ _) | apply PasV.lend rfl rfl (ro_I _) | apply PasV.mv rfl | apply PasV.ag | apply PasV.fn | exact PasV.fs | apply PasV.any))) rfl rfl ?_)
                | ((with_reducible apply AP.k_any); refine AP.CB [(0, 0)] 0 (rbad_ac (0, b)) ?_)
          )
            <;> (try simp only [nx, Nat.reduceAdd, Nat.reduceSub, BEq.rfl]))
          | ((with_reducible apply AP.k_nil); first
              | (refine AP.nil (hQ' _ ?_); clear hQ' Q')
              | refine AP.nil ?_)
          | ((with_reducible apply CP.k_reg); refine cp_regG fun Q' hQ' => ?_)
            | (with_reducible apply CP.k_reg1; refine cp_region ?_)
            | ((with_reducible apply CP.k_cond); first | refine cp_condT rfl ?_ | refine cp_condF rfl ?_ | refine cp_cond rfl (fun hc => ?_) (fun hc => ?_))
            | refine CP.go ?_
            | (simp only [List.append_eq, List.cons_append, List.nil_append]))
        all_goals first
          | (exfalso; simp at *; done)
          | (exfalso; simp at *; omega)
          | (simp only [htk]
             (exact RetQ.A [(0, 0)] (by exact ⟨rfl, rfl⟩)))
      | false =>
        rw [hg2] at hf'
        simp only [Bool.false_eq_true, if_false]
        refine AC.N Try.func84 Try.ntmps84 ?_
        intro X
        simp only [nx, Nat.reduceAdd, Nat.reduceSub, BEq.rfl]
        repeat' (first
          | ((first
          | ((with_reducible apply AP.k_any); first
                   | refine AP.S ?_
                   | (refine AP.Y ?_; dsimp only) | refine AP.G (fun hg => ?_) (fun hg => ?_)
            )
          | ((with_reducible apply AP.k_any); refine AP.CB [(0, 0)] 0 (fine_ac (0, b)) ?_)
                | ((with_reducible apply AP.k_any); refine ap_callX rfl rfl (fn := f) rfl hf' (by (repeat' (first | exact PasC.nil | apply PasC.nil | apply PasC.cons | apply PasV.leaf rfl | apply PasV.nl | apply PasV.bp rfl | apply PasV.lend rfl rfl rfl | apply PasV.lend rfl rfl (ro_B _) | apply PasV.lend rfl rfl (ro_M _) | apply PasV.lend rfl rfl (ro_E _ _) | apply PasV.lend rfl rfl (ro_I _) | apply PasV.mv rfl | apply PasV.ag | apply PasV.fn | exact PasV.fs | apply PasV.any))) rfl rfl ?_)
                | ((with_reducible apply AP.k_any); refine AP.CB [(0, 0)] 0 (rbad_ac (0, b)) ?_)
          )
            <;> (try simp only [nx, Nat.reduceAdd, Nat.reduceSub, BEq.rfl]))
          | ((with_reducible apply AP.k_nil); first
              | (refine AP.nil (hQ' _ ?_); clear hQ' Q')
              | refine AP.nil ?_)
          | ((with_reducible apply CP.k_reg); refine cp_regG fun Q' hQ' => ?_)
            | (with_reducible apply CP.k_reg1; refine cp_region ?_)
            | ((with_reducible apply CP.k_cond); first | refine cp_condT rfl ?_ | refine cp_condF rfl ?_ | refine cp_cond rfl (fun hc => ?_) (fun hc => ?_))
            | refine CP.go ?_
            | (simp only [List.append_eq, List.cons_append, List.nil_append]))
        all_goals first
          | (exfalso; simp at *; done)
          | (exfalso; simp at *; omega)
          | (exact RetQ.A [(0, 0)] (by exact ⟨rfl, rfl⟩))
  · have ht : takeS (0 : Int) g n (e, b) = ((0 : Int), (e, b)) := by simp [takeS, he]
    have hb : ((e : Int) == 0) = false := by simp [he]
    rw [ht]
    refine AC.N Try.func84 Try.ntmps84 ?_
    intro X
    simp only [nx, Nat.reduceAdd, Nat.reduceSub, BEq.rfl]
    repeat' (first
      | ((first
      | ((with_reducible apply AP.k_any); first
               | refine AP.S ?_
               | (refine AP.Y ?_; dsimp only) | refine AP.G (fun hg => ?_) (fun hg => ?_)
        )
      | ((with_reducible apply AP.k_any); refine AP.CB [(0, 0)] 0 (fine_ac (e, b)) ?_)
      )
        <;> (try simp only [nx, Nat.reduceAdd, Nat.reduceSub, BEq.rfl]))
      | ((with_reducible apply AP.k_nil); first
          | (refine AP.nil (hQ' _ ?_); clear hQ' Q')
          | refine AP.nil ?_)
      | ((with_reducible apply CP.k_reg); refine cp_regG fun Q' hQ' => ?_)
        | (with_reducible apply CP.k_reg1; refine cp_region ?_)
        | ((with_reducible apply CP.k_cond); first | refine cp_condT rfl ?_ | refine cp_condF rfl ?_ | refine cp_cond rfl (fun hc => ?_) (fun hc => ?_))
        | refine CP.go ?_
        | (simp only [List.append_eq, List.cons_append, List.nil_append]))
    all_goals first
      | (exfalso; simp at *; done)
      | (exfalso; simp at *; omega)
      | (exact RetQ.A [(0, 0)] (by exact ⟨rfl, rfl⟩))
theorem take4_ac  (f : Nat) (g : List UInt8 → List UInt8 × Bool) (n : Int) (st : Int × List UInt8) (hst : st.2.length ≤ 100000000) (hf : ∀ b : List UInt8, b.length = n.toNat → b.length ≤ st.2.length → AC Try.prog f [bs none b] [] (fun v bs' => v = .tu [bs none (g b).1, B (g b).2] ∧ bs' = [])) :
    AC Try.prog 114 [.bp 0 0 0, I n, .fn f []] [rB st] (fun v bs' => v = bs none (takeS ([] : List UInt8) g n st).1 ∧ bs' = [rB (takeS ([] : List UInt8) g n st).2]) := by
  obtain ⟨e, b⟩ := st
  by_cases he : e = 0
  · subst he
    by_cases hn : n < 0 ∨ (b.length : Int) < n
    · have ht : takeS ([] : List UInt8) g n (0, b) = (([] : List UInt8), (40, [])) := by simp only [takeS, hn]; simp
      rw [ht]
      refine AC.N Try.func114 Try.ntmps114 ?_
      intro X
      simp only [nx, Nat.reduceAdd, Nat.reduceSub, BEq.rfl]
      repeat' (first
        | ((first
        | ((with_reducible apply AP.k_any); first
                 | refine AP.S ?_
                 | (refine AP.Y ?_; dsimp only) | refine AP.G (fun hg => ?_) (fun hg => ?_)
          )
        | ((with_reducible apply AP.k_any); refine AP.CB [(0, 0)] 0 (fine_ac (0, b)) ?_)
            | ((with_reducible apply AP.k_any); refine AP.CB [(0, 0)] 0 (rbad_ac (0, b)) ?_)
        )
          <;> (try simp only [nx, Nat.reduceAdd, Nat.reduceSub, BEq.rfl]))
        | ((with_reducible apply AP.k_nil); first
            | (refine AP.nil (hQ' _ ?_); clear hQ' Q')
            | refine AP.nil ?_)
        | ((with_reducible apply CP.k_reg); refine cp_regG fun Q' hQ' => ?_)
          | (with_reducible apply CP.k_reg1; refine cp_region ?_)
          | ((with_reducible apply CP.k_cond); first | refine cp_condT rfl ?_ | refine cp_condF rfl ?_ | refine cp_cond rfl (fun hc => ?_) (fun hc => ?_))
          | refine CP.go ?_
          | (simp only [List.append_eq, List.cons_append, List.nil_append]))
      all_goals first
        | (exfalso; simp at *; done)
        | (exfalso; simp at *; omega)
        | (exact RetQ.A [(0, 0)] (by exact ⟨rfl, rfl⟩))
    · have hl : (b.take n.toNat).length = n.toNat := by simp; omega
      have hf' := hf (b.take n.toNat) hl (by rw [List.length_take]; exact Nat.min_le_right _ _)
      have htk : List.take (b.length - n.toNat) (List.drop n.toNat b) = List.drop n.toNat b := List.take_of_length_le (by simp)
      have hn0 : 0 ≤ n := by omega
      have hn1 : n ≤ (b.length : Int) := by omega
      have hm : n ≤ ((b.map eB).length : Int) := by simp; omega
      have ht : takeS ([] : List UInt8) g n (0, b) = if (g (b.take n.toNat)).2 = true then ((g (b.take n.toNat)).1, (0, b.drop n.toNat)) else (([] : List UInt8), (40, [])) := by simp only [takeS, hn]; simp
      rw [ht]
      cases hg2 : (g (b.take n.toNat)).2 with
      | true =>
        rw [hg2] at hf'
        simp only [if_true]
        refine AC.N Try.func114 Try.ntmps114 ?_
        intro X
        simp only [nx, Nat.reduceAdd, Nat.reduceSub, BEq.rfl]
        repeat' (first
          | ((first
          | ((with_reducible apply AP.k_any); first
                   | refine AP.S ?_
                   | (refine AP.Y ?_; dsimp only) | refine AP.G (fun hg => ?_) (fun hg => ?_)
            )
          | ((with_reducible apply AP.k_any); refine AP.CB [(0, 0)] 0 (fine_ac (0, b)) ?_)
                | ((with_reducible apply AP.k_any); refine ap_callX rfl rfl (fn := f) rfl hf' (by (repeat' (first | exact PasC.nil | apply PasC.nil | apply PasC.cons | apply PasV.leaf rfl | apply PasV.nl | apply PasV.bp rfl | apply PasV.lend rfl rfl rfl | apply PasV.lend rfl rfl (ro_B _) | apply PasV.lend rfl rfl (ro_M _) | apply PasV.lend rfl rfl (ro_E _ _) | apply PasV.lend rfl rfl (ro_I _) | apply PasV.mv rfl | apply PasV.ag | apply PasV.fn | exact PasV.fs | apply PasV.any))) rfl rfl ?_)
                | ((with_reducible apply AP.k_any); refine AP.CB [(0, 0)] 0 (rbad_ac (0, b)) ?_)
          )
            <;> (try simp only [nx, Nat.reduceAdd, Nat.reduceSub, BEq.rfl]))
          | ((with_reducible apply AP.k_nil); first
              | (refine AP.nil (hQ' _ ?_); clear hQ' Q')
              | refine AP.nil ?_)
          | ((with_reducible apply CP.k_reg); refine cp_regG fun Q' hQ' => ?_)
            | (with_reducible apply CP.k_reg1; refine cp_region ?_)
            | ((with_reducible apply CP.k_cond); first | refine cp_condT rfl ?_ | refine cp_condF rfl ?_ | refine cp_cond rfl (fun hc => ?_) (fun hc => ?_))
            | refine CP.go ?_
            | (simp only [List.append_eq, List.cons_append, List.nil_append]))
        all_goals first
          | (exfalso; simp at *; done)
          | (exfalso; simp at *; omega)
          | (simp only [htk]
             (exact RetQ.A [(0, 0)] (by exact ⟨rfl, rfl⟩)))
      | false =>
        rw [hg2] at hf'
        simp only [Bool.false_eq_true, if_false]
        refine AC.N Try.func114 Try.ntmps114 ?_
        intro X
        simp only [nx, Nat.reduceAdd, Nat.reduceSub, BEq.rfl]
        repeat' (first
          | ((first
          | ((with_reducible apply AP.k_any); first
                   | refine AP.S ?_
                   | (refine AP.Y ?_; dsimp only) | refine AP.G (fun hg => ?_) (fun hg => ?_)
            )
          | ((with_reducible apply AP.k_any); refine AP.CB [(0, 0)] 0 (fine_ac (0, b)) ?_)
                | ((with_reducible apply AP.k_any); refine ap_callX rfl rfl (fn := f) rfl hf' (by (repeat' (first | exact PasC.nil | apply PasC.nil | apply PasC.cons | apply PasV.leaf rfl | apply PasV.nl | apply PasV.bp rfl | apply PasV.lend rfl rfl rfl | apply PasV.lend rfl rfl (ro_B _) | apply PasV.lend rfl rfl (ro_M _) | apply PasV.lend rfl rfl (ro_E _ _) | apply PasV.lend rfl rfl (ro_I _) | apply PasV.mv rfl | apply PasV.ag | apply PasV.fn | exact PasV.fs | apply PasV.any))) rfl rfl ?_)
                | ((with_reducible apply AP.k_any); refine AP.CB [(0, 0)] 0 (rbad_ac (0, b)) ?_)
          )
            <;> (try simp only [nx, Nat.reduceAdd, Nat.reduceSub, BEq.rfl]))
          | ((with_reducible apply AP.k_nil); first
              | (refine AP.nil (hQ' _ ?_); clear hQ' Q')
              | refine AP.nil ?_)
          | ((with_reducible apply CP.k_reg); refine cp_regG fun Q' hQ' => ?_)
            | (with_reducible apply CP.k_reg1; refine cp_region ?_)
            | ((with_reducible apply CP.k_cond); first | refine cp_condT rfl ?_ | refine cp_condF rfl ?_ | refine cp_cond rfl (fun hc => ?_) (fun hc => ?_))
            | refine CP.go ?_
            | (simp only [List.append_eq, List.cons_append, List.nil_append]))
        all_goals first
          | (exfalso; simp at *; done)
          | (exfalso; simp at *; omega)
          | (exact RetQ.A [(0, 0)] (by exact ⟨rfl, rfl⟩))
  · have ht : takeS ([] : List UInt8) g n (e, b) = (([] : List UInt8), (e, b)) := by simp [takeS, he]
    have hb : ((e : Int) == 0) = false := by simp [he]
    rw [ht]
    refine AC.N Try.func114 Try.ntmps114 ?_
    intro X
    simp only [nx, Nat.reduceAdd, Nat.reduceSub, BEq.rfl]
    repeat' (first
      | ((first
      | ((with_reducible apply AP.k_any); first
               | refine AP.S ?_
               | (refine AP.Y ?_; dsimp only) | refine AP.G (fun hg => ?_) (fun hg => ?_)
        )
      | ((with_reducible apply AP.k_any); refine AP.CB [(0, 0)] 0 (fine_ac (e, b)) ?_)
      )
        <;> (try simp only [nx, Nat.reduceAdd, Nat.reduceSub, BEq.rfl]))
      | ((with_reducible apply AP.k_nil); first
          | (refine AP.nil (hQ' _ ?_); clear hQ' Q')
          | refine AP.nil ?_)
      | ((with_reducible apply CP.k_reg); refine cp_regG fun Q' hQ' => ?_)
        | (with_reducible apply CP.k_reg1; refine cp_region ?_)
        | ((with_reducible apply CP.k_cond); first | refine cp_condT rfl ?_ | refine cp_condF rfl ?_ | refine cp_cond rfl (fun hc => ?_) (fun hc => ?_))
        | refine CP.go ?_
        | (simp only [List.append_eq, List.cons_append, List.nil_append]))
    all_goals first
      | (exfalso; simp at *; done)
      | (exfalso; simp at *; omega)
      | (exact RetQ.A [(0, 0)] (by exact ⟨rfl, rfl⟩))
abbrev iB (x : Int) : Bx := .c 3 [I x]
theorem take5_ac (m l : Int) (f : Nat) (g : List UInt8 → Int × Bool) (n : Int) (st : Int × List UInt8) (hst : st.2.length ≤ 100000000) (hf : ∀ b : List UInt8, b.length = n.toNat → b.length ≤ st.2.length → AC Try.prog f [bs none b, .bp 0 0 0, .bp 1 0 0] [iB m, iB l] (fun v bs' => v = .tu [I (g b).1, B (g b).2] ∧ bs' = [iB m, iB l])) :
    AC Try.prog 84 [.bp 0 0 0, I n, .fn f [.bp 1 0 0, .bp 2 0 0]] [rB st, iB m, iB l] (fun v bs' => v = I (takeS (0 : Int) g n st).1 ∧ bs' = [rB (takeS (0 : Int) g n st).2, iB m, iB l]) := by
  obtain ⟨e, b⟩ := st
  by_cases he : e = 0
  · subst he
    by_cases hn : n < 0 ∨ (b.length : Int) < n
    · have ht : takeS (0 : Int) g n (0, b) = ((0 : Int), (40, [])) := by simp only [takeS, hn]; simp
      rw [ht]
      refine AC.N Try.func84 Try.ntmps84 ?_
      intro X
      simp only [nx, Nat.reduceAdd, Nat.reduceSub, BEq.rfl]
      repeat' (first
        | ((first
        | ((with_reducible apply AP.k_any); first
                 | refine AP.S ?_
                 | (refine AP.Y ?_; dsimp only) | refine AP.G (fun hg => ?_) (fun hg => ?_)
          )
        | ((with_reducible apply AP.k_any); refine AP.CB [(0, 0)] 0 (fine_ac (0, b)) ?_)
            | ((with_reducible apply AP.k_any); refine AP.CB [(0, 0)] 0 (rbad_ac (0, b)) ?_)
        )
          <;> (try simp only [nx, Nat.reduceAdd, Nat.reduceSub, BEq.rfl]))
        | ((with_reducible apply AP.k_nil); first
            | (refine AP.nil (hQ' _ ?_); clear hQ' Q')
            | refine AP.nil ?_)
        | ((with_reducible apply CP.k_reg); refine cp_regG fun Q' hQ' => ?_)
          | (with_reducible apply CP.k_reg1; refine cp_region ?_)
          | ((with_reducible apply CP.k_cond); first | refine cp_condT rfl ?_ | refine cp_condF rfl ?_ | refine cp_cond rfl (fun hc => ?_) (fun hc => ?_))
          | refine CP.go ?_
          | (simp only [List.append_eq, List.cons_append, List.nil_append]))
      all_goals first
        | (exfalso; simp at *; done)
        | (exfalso; simp at *; omega)
        | (exact RetQ.A [(0, 0), (1, 0), (2, 0)] (by exact ⟨rfl, rfl⟩))
    · have hl : (b.take n.toNat).length = n.toNat := by simp; omega
      have hf' := hf (b.take n.toNat) hl (by rw [List.length_take]; exact Nat.min_le_right _ _)
      have htk : List.take (b.length - n.toNat) (List.drop n.toNat b) = List.drop n.toNat b := List.take_of_length_le (by simp)
      have hn0 : 0 ≤ n := by omega
      have hn1 : n ≤ (b.length : Int) := by omega
      have hm : n ≤ ((b.map eB).length : Int) := by simp; omega
      have ht : takeS (0 : Int) g n (0, b) = if (g (b.take n.toNat)).2 = true then ((g (b.take n.toNat)).1, (0, b.drop n.toNat)) else ((0 : Int), (40, [])) := by simp only [takeS, hn]; simp
      rw [ht]
      cases hg2 : (g (b.take n.toNat)).2 with
      | true =>
        rw [hg2] at hf'
        simp only [if_true]
        refine AC.N Try.func84 Try.ntmps84 ?_
        intro X
        simp only [nx, Nat.reduceAdd, Nat.reduceSub, BEq.rfl]
        repeat' (first
          | ((first
          | ((with_reducible apply AP.k_any); first
                   | refine AP.S ?_
                   | (refine AP.Y ?_; dsimp only) | refine AP.G (fun hg => ?_) (fun hg => ?_)
            )
          | ((with_reducible apply AP.k_any); refine AP.CB [(0, 0)] 0 (fine_ac (0, b)) ?_)
                | ((with_reducible apply AP.k_any); refine ap_callB 0 [(1, 0), (2, 0)] rfl rfl (fn := f) rfl hf' (by (repeat' (first | exact PasC.nil | apply PasC.nil | apply PasC.cons | apply PasV.leaf rfl | apply PasV.nl | apply PasV.bp rfl | apply PasV.lend rfl rfl rfl | apply PasV.lend rfl rfl (ro_B _) | apply PasV.lend rfl rfl (ro_M _) | apply PasV.lend rfl rfl (ro_E _ _) | apply PasV.lend rfl rfl (ro_I _) | apply PasV.mv rfl | apply PasV.ag | apply PasV.fn | exact PasV.fs | apply PasV.any))) (by (repeat' (first | exact Out.nil | apply Out.cons rfl | exact ClsC.nil | apply ClsC.nl | apply ClsC.leaf rfl | apply ClsC.hd rfl | apply ClsC.fn | apply ClsC.fz rfl (ro_B _) | apply ClsC.fz rfl (ro_M _) | apply ClsC.fz rfl (ro_E _ _) | apply ClsC.fz rfl rfl))) rfl (by (repeat' (first | exact Bk.nil | apply Bk.cons rfl rfl rfl))) (by (repeat' (first | exact RnV.leaf rfl | exact RnC.nil | apply RnC.cons | apply RnV.ag | apply RnV.tu | exact RnV.bp rfl))) rfl ?_)
                | ((with_reducible apply AP.k_any); refine AP.CB [(0, 0)] 0 (rbad_ac (0, b)) ?_)
          )
            <;> (try simp only [nx, Nat.reduceAdd, Nat.reduceSub, BEq.rfl]))
          | ((with_reducible apply AP.k_nil); first
              | (refine AP.nil (hQ' _ ?_); clear hQ' Q')
              | refine AP.nil ?_)
          | ((with_reducible apply CP.k_reg); refine cp_regG fun Q' hQ' => ?_)
            | (with_reducible apply CP.k_reg1; refine cp_region ?_)
            | ((with_reducible apply CP.k_cond); first | refine cp_condT rfl ?_ | refine cp_condF rfl ?_ | refine cp_cond rfl (fun hc => ?_) (fun hc => ?_))
            | refine CP.go ?_
            | (simp only [List.append_eq, List.cons_append, List.nil_append]))
        all_goals first
          | (exfalso; simp at *; done)
          | (exfalso; simp at *; omega)
          | (simp only [htk]
             (exact RetQ.A [(0, 0), (1, 0), (2, 0)] (by exact ⟨rfl, rfl⟩)))
      | false =>
        rw [hg2] at hf'
        simp only [Bool.false_eq_true, if_false]
        refine AC.N Try.func84 Try.ntmps84 ?_
        intro X
        simp only [nx, Nat.reduceAdd, Nat.reduceSub, BEq.rfl]
        repeat' (first
          | ((first
          | ((with_reducible apply AP.k_any); first
                   | refine AP.S ?_
                   | (refine AP.Y ?_; dsimp only) | refine AP.G (fun hg => ?_) (fun hg => ?_)
            )
          | ((with_reducible apply AP.k_any); refine AP.CB [(0, 0)] 0 (fine_ac (0, b)) ?_)
                | ((with_reducible apply AP.k_any); refine ap_callB 0 [(1, 0), (2, 0)] rfl rfl (fn := f) rfl hf' (by (repeat' (first | exact PasC.nil | apply PasC.nil | apply PasC.cons | apply PasV.leaf rfl | apply PasV.nl | apply PasV.bp rfl | apply PasV.lend rfl rfl rfl | apply PasV.lend rfl rfl (ro_B _) | apply PasV.lend rfl rfl (ro_M _) | apply PasV.lend rfl rfl (ro_E _ _) | apply PasV.lend rfl rfl (ro_I _) | apply PasV.mv rfl | apply PasV.ag | apply PasV.fn | exact PasV.fs | apply PasV.any))) (by (repeat' (first | exact Out.nil | apply Out.cons rfl | exact ClsC.nil | apply ClsC.nl | apply ClsC.leaf rfl | apply ClsC.hd rfl | apply ClsC.fn | apply ClsC.fz rfl (ro_B _) | apply ClsC.fz rfl (ro_M _) | apply ClsC.fz rfl (ro_E _ _) | apply ClsC.fz rfl rfl))) rfl (by (repeat' (first | exact Bk.nil | apply Bk.cons rfl rfl rfl))) (by (repeat' (first | exact RnV.leaf rfl | exact RnC.nil | apply RnC.cons | apply RnV.ag | apply RnV.tu | exact RnV.bp rfl))) rfl ?_)
                | ((with_reducible apply AP.k_any); refine AP.CB [(0, 0)] 0 (rbad_ac (0, b)) ?_)
          )
            <;> (try simp only [nx, Nat.reduceAdd, Nat.reduceSub, BEq.rfl]))
          | ((with_reducible apply AP.k_nil); first
              | (refine AP.nil (hQ' _ ?_); clear hQ' Q')
              | refine AP.nil ?_)
          | ((with_reducible apply CP.k_reg); refine cp_regG fun Q' hQ' => ?_)
            | (with_reducible apply CP.k_reg1; refine cp_region ?_)
            | ((with_reducible apply CP.k_cond); first | refine cp_condT rfl ?_ | refine cp_condF rfl ?_ | refine cp_cond rfl (fun hc => ?_) (fun hc => ?_))
            | refine CP.go ?_
            | (simp only [List.append_eq, List.cons_append, List.nil_append]))
        all_goals first
          | (exfalso; simp at *; done)
          | (exfalso; simp at *; omega)
          | (exact RetQ.A [(0, 0), (1, 0), (2, 0)] (by exact ⟨rfl, rfl⟩))
  · have ht : takeS (0 : Int) g n (e, b) = ((0 : Int), (e, b)) := by simp [takeS, he]
    have hb : ((e : Int) == 0) = false := by simp [he]
    rw [ht]
    refine AC.N Try.func84 Try.ntmps84 ?_
    intro X
    simp only [nx, Nat.reduceAdd, Nat.reduceSub, BEq.rfl]
    repeat' (first
      | ((first
      | ((with_reducible apply AP.k_any); first
               | refine AP.S ?_
               | (refine AP.Y ?_; dsimp only) | refine AP.G (fun hg => ?_) (fun hg => ?_)
        )
      | ((with_reducible apply AP.k_any); refine AP.CB [(0, 0)] 0 (fine_ac (e, b)) ?_)
      )
        <;> (try simp only [nx, Nat.reduceAdd, Nat.reduceSub, BEq.rfl]))
      | ((with_reducible apply AP.k_nil); first
          | (refine AP.nil (hQ' _ ?_); clear hQ' Q')
          | refine AP.nil ?_)
      | ((with_reducible apply CP.k_reg); refine cp_regG fun Q' hQ' => ?_)
        | (with_reducible apply CP.k_reg1; refine cp_region ?_)
        | ((with_reducible apply CP.k_cond); first | refine cp_condT rfl ?_ | refine cp_condF rfl ?_ | refine cp_cond rfl (fun hc => ?_) (fun hc => ?_))
        | refine CP.go ?_
        | (simp only [List.append_eq, List.cons_append, List.nil_append]))
    all_goals first
      | (exfalso; simp at *; done)
      | (exfalso; simp at *; omega)
      | (exact RetQ.A [(0, 0), (1, 0), (2, 0)] (by exact ⟨rfl, rfl⟩))
end Go.Proofs.Ytpdegeknhapgmaa
