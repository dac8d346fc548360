/-
  Texts joined: M2, M3, W11, W12, W13, W14, M6, M8, Eq, Ky, Fv, Ar, Sv, Pf, Ob, Mp, Mq, Wk.
-/
import Derived.Test.YtmiajenjgcdhgaaZ1
import Derived.Test.YtmiajenjgcdhgaaZ2
import Derived.DeepKeys
import Derived.MapKept
import Derived.WideShapes
import Derived.ChangeMaps4
import Derived.Laws.CopyRow
namespace Go.Proofs.Ytmiajenjgcdhgaa
set_option linter.unusedVariables false
set_option linter.unusedSimpArgs false
set_option maxHeartbeats 8000000
open Go.RowKit
set_option maxRecDepth 100000
def allGE (p : Nat → Entry → Bool) : Nat → List Entry → Bool
  | _, [] => true
  | k, m :: l => p k m && allGE p (k + 1) l
theorem all3_ac (f : Nat) (m : Msg) (p : Nat → Entry → Bool) (l : List Entry) (hl : l.length ≤ 100000000) (hf : ∀ (i : Nat) (h : i < l.length), AC Try.prog f [I i, .ag (eE none l[i]), .bp 0 0 0] [.c tMsg (eG m)] (fun v bs => v = B (p i l[i]) ∧ bs = [.c tMsg (eG m)])) :
    AC Try.prog 78 [es none none l, .fn f [.bp 0 0 0]] [.c tMsg (eG m)] (fun v bs => v = B (allGE p 0 l) ∧ bs = [.c tMsg (eG m)]) := by
  refine AC.N Try.func78 Try.ntmps78 ?_
  intro X hρ hmks
  simp only [nx, Nat.reduceAdd, Nat.reduceSub, BEq.rfl]
  repeat' (first | ((first | ((with_reducible apply AP.k_any); first | refine AP.S ?_ | refine AP.E ?_ | refine AP.T ?_)) <;> (try simp only [nx, Nat.reduceAdd, Nat.reduceSub, BEq.rfl])) | ((with_reducible apply AP.k_nil); first | (refine AP.nil (hQ' _ ?_); clear hQ' Q') | refine AP.nil ?_) | ((with_reducible apply CP.k_reg); refine cp_regG fun Q' hQ' => ?_) | refine CP.W ?_ | refine cp_cond rfl (fun hc => ?_) (fun hc => ?_) | (simp only [List.append_eq, List.cons_append, List.nil_append]))
  refine CP.gh gh_slot ?_
  simp only [nx, Nat.reduceAdd, Nat.reduceSub, BEq.rfl]
  refine cp_loopS [4, 5, 6, 9, 10, 11, 12, 13, 14, 15, 16, 17, 18, 19] (fun a : Nat × Nat => l.length - a.1) (fun a => a.1 ≤ l.length ∧ allGE p 0 l = allGE p a.1 (l.drop a.1)) (fun a => [(9, I a.1)]) (fun a => [(1, ⟨a.2, .x⟩)]) (0, 0) ⟨Nat.zero_le _, rfl⟩ (by exact Gh.W) ?_
  rintro ⟨k, u⟩ ⟨hk, he⟩
  simp only [setT, deT, setB, List.set_cons_succ, List.set_cons_zero]
  dsimp only at hk he
  by_cases hlt : k < l.length
  · have hw : IntKind.i64.wrap ((k : Int) + 1) = ((k + 1 : Nat) : Int) := wrap_i64 (by omega) (by omega)
    rw [List.drop_eq_getElem_cons hlt, allGE] at he
    repeat' (first | ((first | ((with_reducible apply AP.k_any); first | refine AP.S ?_ | refine AP.E ?_ | refine AP.T ?_) | ((with_reducible apply AP.k_any); refine ap_callB 0 [(0, 0)] rfl rfl (fn := f) rfl (hf k hlt) (by (repeat' (first | exact PasC.nil | apply PasC.nil | apply PasC.cons | apply PasV.leaf rfl | apply PasV.nl | apply PasV.bp rfl | apply PasV.lend rfl rfl rfl | apply PasV.lend rfl rfl (ro_B _) | apply PasV.lend rfl rfl (ro_M _) | apply PasV.lend rfl rfl (ro_E _ _) | apply PasV.lend rfl rfl (ro_I _) | apply PasV.lend rfl rfl (by (simp only [rn, List.map_cons, List.map_nil]; first | done | rfl)) | apply PasV.mv rfl | apply PasV.ag | apply PasV.fn | exact PasV.fs | apply PasV.any))) (by (repeat' (first | exact Out.nil | apply Out.cons rfl | exact ClsC.nil | apply ClsC.nl | apply ClsC.leaf rfl | apply ClsC.hd rfl | apply ClsC.ob rfl | apply ClsC.mo rfl | apply ClsC.mp rfl | apply ClsC.hp rfl | apply ClsC.fn | apply ClsC.fz rfl (ro_B _) | apply ClsC.fz rfl (ro_M _) | apply ClsC.fz rfl (ro_E _ _) | apply ClsC.fz rfl rfl))) rfl (by (repeat' (first | exact Bk.nil | apply Bk.cons rfl rfl rfl))) (by (repeat' (first | exact RnV.leaf rfl | exact RnC.nil | apply RnC.cons | apply RnV.ag | apply RnV.tu | apply RnV.fn | exact RnV.bp rfl))) rfl ?_)) <;> (try simp only [nx, Nat.reduceAdd, Nat.reduceSub, BEq.rfl])) | ((with_reducible apply AP.k_nil); first | (refine AP.nil (hQ' _ ?_); clear hQ' Q') | refine AP.nil ?_) | ((with_reducible apply CP.k_reg); refine cp_regG fun Q' hQ' => ?_) | refine CP.W ?_ | refine cp_cond rfl (fun hc => ?_) (fun hc => ?_) | (simp only [List.append_eq, List.cons_append, List.nil_append]))
    · (refine RetQ.B [(0, 0)] ?_; (try dsimp only [resV, List.getD_cons_succ, List.getD_cons_zero]); ((have h : p k l[k] = false := by simpa using hc); exact ⟨by rw [he, h, Bool.false_and], rfl⟩))
    · simp only [hw]
      exact ⟨(k + 1, u + 1), by (dsimp only; omega), ⟨by (dsimp only; omega), by (have h : p k l[k] = true := by simpa using hc); rw [he, h, Bool.true_and]⟩, by exact Gh.W⟩
    · exfalso; simp at *; omega
  · rw [List.drop_of_length_le (by omega), allGE] at he
    repeat' (first | ((first | ((with_reducible apply AP.k_any); first | refine AP.S ?_ | refine AP.E ?_ | refine AP.T ?_)) <;> (try simp only [nx, Nat.reduceAdd, Nat.reduceSub, BEq.rfl])) | ((with_reducible apply AP.k_nil); first | (refine AP.nil (hQ' _ ?_); clear hQ' Q') | refine AP.nil ?_) | ((with_reducible apply CP.k_reg); refine cp_regG fun Q' hQ' => ?_) | refine CP.W ?_ | refine cp_cond rfl (fun hc => ?_) (fun hc => ?_) | (simp only [List.append_eq, List.cons_append, List.nil_append]))
    all_goals first
      | (exfalso; simp at *; done)
      | (exfalso; simp at *; omega)
      | (refine RetQ.B [(0, 0)] ?_; (try dsimp only [resV, List.getD_cons_succ, List.getD_cons_zero]); (exact ⟨by rw [he], rfl⟩))
def pEnt (m : Msg) : Nat → Entry → Bool := fun i e => mayE e && IntKind.i64.wrap (e.pos - m.frm) == (i : Int)
def mayEnt (m : Msg) : Bool := decide (0 ≤ m.upto) && decide (1 ≤ m.frm) && decide (m.entries.length ≤ 4) && allGE (pEnt m) 0 m.entries
theorem ent11_ac (i : Nat) (e : Entry) (m : Msg) : AC Try.prog 79 [I i, .ag (eE none e), .bp 0 0 0] [.c tMsg (eG m)] (fun v bs => v = B (pEnt m i e) ∧ bs = [.c tMsg (eG m)]) := by
  refine AC.N Try.func79 Try.ntmps79 ?_
  intro X hρ hmks
  simp only [nx, Nat.reduceAdd, Nat.reduceSub, BEq.rfl]
  repeat' (first | ((first | ((with_reducible apply AP.k_any); first | refine AP.S ?_ | (refine AP.Y ?_; dsimp only) | refine AP.G (fun hg => ?_) (fun hg => ?_)) | ((with_reducible apply AP.k_any); refine AP.C (mayEntry_ac _) ?_)) <;> (try simp only [nx, Nat.reduceAdd, Nat.reduceSub, BEq.rfl])) | ((with_reducible apply AP.k_nil); first | (refine AP.nil (hQ' _ ?_); clear hQ' Q') | refine AP.nil ?_) | ((with_reducible apply CP.k_reg); refine cp_regG fun Q' hQ' => ?_) | refine CP.W ?_ | refine cp_cond rfl (fun hc => ?_) (fun hc => ?_) | (simp only [List.append_eq, List.cons_append, List.nil_append]))
  all_goals (refine RetQ.B [(0, 0)] ?_; (try dsimp only [resV, List.getD_cons_succ, List.getD_cons_zero]); ((refine ⟨?_, rfl⟩; simp at *; simp [pEnt, *])))
theorem emay1_ac (m : Msg) (hl : m.entries.length ≤ 100000000) : AC Try.prog 77 [.ag (eG m)] [] (fun v bs => v = B (mayEnt m) ∧ bs = []) := by
  have h := all3_ac 79 m (pEnt m) m.entries hl (fun i h => ent11_ac i _ m)
  refine AC.N Try.func77 Try.ntmps77 ?_
  intro X hρ hmks
  simp only [nx, Nat.reduceAdd, Nat.reduceSub, BEq.rfl]
  repeat' (first | ((first | ((with_reducible apply AP.k_any); first | refine AP.S ?_ | (refine AP.Y ?_; dsimp only) | refine AP.G (fun hg => ?_) (fun hg => ?_)) | ((with_reducible apply AP.k_any); refine AP.CB [(0, 1)] 0 (h) ?_)) <;> (try simp only [nx, Nat.reduceAdd, Nat.reduceSub, BEq.rfl])) | ((with_reducible apply AP.k_nil); first | (refine AP.nil (hQ' _ ?_); clear hQ' Q') | refine AP.nil ?_) | ((with_reducible apply CP.k_reg); refine cp_regG fun Q' hQ' => ?_) | refine CP.W ?_ | refine cp_cond rfl (fun hc => ?_) (fun hc => ?_) | (simp only [List.append_eq, List.cons_append, List.nil_append]))
  all_goals (refine RetQ.B [] ?_; (try dsimp only [resV, List.getD_cons_succ, List.getD_cons_zero]); ((refine ⟨?_, rfl⟩; simp at *; simp [mayEnt, *]; try omega)))
theorem of1_ac (m : Msg) (h : m.kind.toNat = 1) : AC Try.prog 21 [.ag (eG m)] [] (fun v bs => v = .tu [.ag kAsk, B true] ∧ bs = []) := by
  have e : (m.kind.toNat : Int) = 1 := by omega
  refine AC.N Try.func21 Try.ntmps21 ?_
  intro X hρ hmks
  simp only [nx, Nat.reduceAdd, Nat.reduceSub, BEq.rfl]
  simp only [e]
  repeat' (first | ((first | ((with_reducible apply AP.k_any); first | refine AP.S ?_ | refine AP.E ?_ | (refine AP.Y ?_; dsimp only) | refine AP.G (fun hg => ?_) (fun hg => ?_) | refine AP.T ?_) | ((with_reducible apply AP.k_any); refine AP.C (kinds_ac) ?_)) <;> (try simp only [nx, Nat.reduceAdd, Nat.reduceSub, BEq.rfl])) | ((with_reducible apply AP.k_nil); first | (refine AP.nil (hQ' _ ?_); clear hQ' Q') | refine AP.nil ?_) | ((with_reducible apply CP.k_reg); refine cp_regG fun Q' hQ' => ?_) | refine CP.W ?_ | refine cp_cond rfl (fun hc => ?_) (fun hc => ?_) | (simp only [List.append_eq, List.cons_append, List.nil_append]))
  all_goals first | (exact RetQ.A [] (by exact ⟨rfl, rfl⟩)) | (exfalso; simp at *; done)
theorem of2_ac (m : Msg) (h : m.kind.toNat = 2) : AC Try.prog 21 [.ag (eG m)] [] (fun v bs => v = .tu [.ag kEnt, B true] ∧ bs = []) := by
  have e : (m.kind.toNat : Int) = 2 := by omega
  refine AC.N Try.func21 Try.ntmps21 ?_
  intro X hρ hmks
  simp only [nx, Nat.reduceAdd, Nat.reduceSub, BEq.rfl]
  simp only [e]
  repeat' (first | ((first | ((with_reducible apply AP.k_any); first | refine AP.S ?_ | refine AP.E ?_ | (refine AP.Y ?_; dsimp only) | refine AP.G (fun hg => ?_) (fun hg => ?_) | refine AP.T ?_) | ((with_reducible apply AP.k_any); refine AP.C (kinds_ac) ?_)) <;> (try simp only [nx, Nat.reduceAdd, Nat.reduceSub, BEq.rfl])) | ((with_reducible apply AP.k_nil); first | (refine AP.nil (hQ' _ ?_); clear hQ' Q') | refine AP.nil ?_) | ((with_reducible apply CP.k_reg); refine cp_regG fun Q' hQ' => ?_) | refine CP.W ?_ | refine cp_cond rfl (fun hc => ?_) (fun hc => ?_) | (simp only [List.append_eq, List.cons_append, List.nil_append]))
  all_goals first | (exact RetQ.A [] (by exact ⟨rfl, rfl⟩)) | (exfalso; simp at *; done)
theorem of3_ac (m : Msg) (h : m.kind.toNat = 3) : AC Try.prog 21 [.ag (eG m)] [] (fun v bs => v = .tu [.ag kHave, B true] ∧ bs = []) := by
  have e : (m.kind.toNat : Int) = 3 := by omega
  refine AC.N Try.func21 Try.ntmps21 ?_
  intro X hρ hmks
  simp only [nx, Nat.reduceAdd, Nat.reduceSub, BEq.rfl]
  simp only [e]
  repeat' (first | ((first | ((with_reducible apply AP.k_any); first | refine AP.S ?_ | refine AP.E ?_ | (refine AP.Y ?_; dsimp only) | refine AP.G (fun hg => ?_) (fun hg => ?_) | refine AP.T ?_) | ((with_reducible apply AP.k_any); refine AP.C (kinds_ac) ?_)) <;> (try simp only [nx, Nat.reduceAdd, Nat.reduceSub, BEq.rfl])) | ((with_reducible apply AP.k_nil); first | (refine AP.nil (hQ' _ ?_); clear hQ' Q') | refine AP.nil ?_) | ((with_reducible apply CP.k_reg); refine cp_regG fun Q' hQ' => ?_) | refine CP.W ?_ | refine cp_cond rfl (fun hc => ?_) (fun hc => ?_) | (simp only [List.append_eq, List.cons_append, List.nil_append]))
  all_goals first | (exact RetQ.A [] (by exact ⟨rfl, rfl⟩)) | (exfalso; simp at *; done)
theorem of4_ac (m : Msg) (h : m.kind.toNat = 4) : AC Try.prog 21 [.ag (eG m)] [] (fun v bs => v = .tu [.ag kCfg, B true] ∧ bs = []) := by
  have e : (m.kind.toNat : Int) = 4 := by omega
  refine AC.N Try.func21 Try.ntmps21 ?_
  intro X hρ hmks
  simp only [nx, Nat.reduceAdd, Nat.reduceSub, BEq.rfl]
  simp only [e]
  repeat' (first | ((first | ((with_reducible apply AP.k_any); first | refine AP.S ?_ | refine AP.E ?_ | (refine AP.Y ?_; dsimp only) | refine AP.G (fun hg => ?_) (fun hg => ?_) | refine AP.T ?_) | ((with_reducible apply AP.k_any); refine AP.C (kinds_ac) ?_)) <;> (try simp only [nx, Nat.reduceAdd, Nat.reduceSub, BEq.rfl])) | ((with_reducible apply AP.k_nil); first | (refine AP.nil (hQ' _ ?_); clear hQ' Q') | refine AP.nil ?_) | ((with_reducible apply CP.k_reg); refine cp_regG fun Q' hQ' => ?_) | refine CP.W ?_ | refine cp_cond rfl (fun hc => ?_) (fun hc => ?_) | (simp only [List.append_eq, List.cons_append, List.nil_append]))
  all_goals first | (exact RetQ.A [] (by exact ⟨rfl, rfl⟩)) | (exfalso; simp at *; done)
theorem of5_ac (m : Msg) (h : m.kind.toNat = 5) : AC Try.prog 21 [.ag (eG m)] [] (fun v bs => v = .tu [.ag kWhole, B true] ∧ bs = []) := by
  have e : (m.kind.toNat : Int) = 5 := by omega
  refine AC.N Try.func21 Try.ntmps21 ?_
  intro X hρ hmks
  simp only [nx, Nat.reduceAdd, Nat.reduceSub, BEq.rfl]
  simp only [e]
  repeat' (first | ((first | ((with_reducible apply AP.k_any); first | refine AP.S ?_ | refine AP.E ?_ | (refine AP.Y ?_; dsimp only) | refine AP.G (fun hg => ?_) (fun hg => ?_) | refine AP.T ?_) | ((with_reducible apply AP.k_any); refine AP.C (kinds_ac) ?_)) <;> (try simp only [nx, Nat.reduceAdd, Nat.reduceSub, BEq.rfl])) | ((with_reducible apply AP.k_nil); first | (refine AP.nil (hQ' _ ?_); clear hQ' Q') | refine AP.nil ?_) | ((with_reducible apply CP.k_reg); refine cp_regG fun Q' hQ' => ?_) | refine CP.W ?_ | refine cp_cond rfl (fun hc => ?_) (fun hc => ?_) | (simp only [List.append_eq, List.cons_append, List.nil_append]))
  all_goals first | (exact RetQ.A [] (by exact ⟨rfl, rfl⟩)) | (exfalso; simp at *; done)
theorem of6_ac (m : Msg) (h : m.kind.toNat = 6) : AC Try.prog 21 [.ag (eG m)] [] (fun v bs => v = .tu [.ag kAsk, B true] ∧ bs = []) := by
  have e : (m.kind.toNat : Int) = 6 := by omega
  refine AC.N Try.func21 Try.ntmps21 ?_
  intro X hρ hmks
  simp only [nx, Nat.reduceAdd, Nat.reduceSub, BEq.rfl]
  simp only [e]
  repeat' (first | ((first | ((with_reducible apply AP.k_any); first | refine AP.S ?_ | refine AP.E ?_ | (refine AP.Y ?_; dsimp only) | refine AP.G (fun hg => ?_) (fun hg => ?_) | refine AP.T ?_) | ((with_reducible apply AP.k_any); refine AP.C (kinds_ac) ?_)) <;> (try simp only [nx, Nat.reduceAdd, Nat.reduceSub, BEq.rfl])) | ((with_reducible apply AP.k_nil); first | (refine AP.nil (hQ' _ ?_); clear hQ' Q') | refine AP.nil ?_) | ((with_reducible apply CP.k_reg); refine cp_regG fun Q' hQ' => ?_) | refine CP.W ?_ | refine cp_cond rfl (fun hc => ?_) (fun hc => ?_) | (simp only [List.append_eq, List.cons_append, List.nil_append]))
  all_goals first | (exact RetQ.A [] (by exact ⟨rfl, rfl⟩)) | (exfalso; simp at *; done)
theorem ofNo_ac (m : Msg) (h : m.kind.toNat = 0 ∨ 7 ≤ m.kind.toNat) : AC Try.prog 21 [.ag (eG m)] [] (fun v bs => v = .tu [.ag kNo, B false] ∧ bs = []) := by
  have hw : IntKind.i64.wrap (m.kind.toNat : Int) = (m.kind.toNat : Int) := wrap_i64 (by omega) (by have := m.kind.toNat_lt; omega)
  refine AC.N Try.func21 Try.ntmps21 ?_
  intro X hρ hmks
  simp only [nx, Nat.reduceAdd, Nat.reduceSub, BEq.rfl]
  repeat' (first | ((first | ((with_reducible apply AP.k_any); first | refine AP.S ?_ | refine AP.E ?_ | (refine AP.Y ?_; dsimp only) | refine AP.G (fun hg => ?_) (fun hg => ?_) | refine AP.T ?_) | ((with_reducible apply AP.k_any); refine AP.C (kinds_ac) ?_)) <;> (try simp only [nx, Nat.reduceAdd, Nat.reduceSub, BEq.rfl])) | ((with_reducible apply AP.k_nil); first | (refine AP.nil (hQ' _ ?_); clear hQ' Q') | refine AP.nil ?_) | ((with_reducible apply CP.k_reg); refine cp_regG fun Q' hQ' => ?_) | refine CP.W ?_ | refine cp_cond rfl (fun hc => ?_) (fun hc => ?_) | (simp only [List.append_eq, List.cons_append, List.nil_append]))
  all_goals first | (exact RetQ.A [] (by exact ⟨rfl, rfl⟩)) | (exfalso; simp [hw] at *; omega)
end Go.Proofs.Ytmiajenjgcdhgaa

namespace Go.Proofs.Ytmiajenjgcdhgaa
set_option linter.unusedVariables false
set_option linter.unusedSimpArgs false
set_option maxHeartbeats 8000000
open Go.RowKit
set_option maxRecDepth 100000
def mayM (m : Msg) : Bool := match m.kind.toNat with
  | 1 => mayAsk m && noneM (bareAsk m)
  | 2 => mayEnt m && noneM (bareEnt m)
  | 3 => mayHave m && noneM (bareHave m)
  | 4 => mayCfg m.cfg && noneM (bareCfg m)
  | 5 => mayWhole m && noneM (bareWhole m)
  | 6 => mayAsk m && noneM (bareAsk m)
  | _ => false
theorem kind_cases (k : UInt8) : k.toNat = 1 ∨ k.toNat = 2 ∨ k.toNat = 3 ∨ k.toNat = 4 ∨ k.toNat = 5 ∨ k.toNat = 6 ∨ (k.toNat = 0 ∨ 7 ≤ k.toNat) := by omega
theorem mayG_ac (f1 f2 f3 f4 : Nat) (m mb : Msg) (x : Bool) (hof : AC Try.prog 21 [.ag (eG m)] [] (fun v bs => v = .tu [.ag [fnv f1, fnv f2, fnv f3, fnv f4], B true] ∧ bs = []))
    (hmay : AC Try.prog f1 [.ag (eG m)] [] (fun v bs => v = B x ∧ bs = [])) (hbare : AC Try.prog f2 [.ag (eG m)] [] (fun v bs => v = .ag (eG mb) ∧ bs = [])) :
    AC Try.prog 23 [.ag (eG m)] [] (fun v bs => v = B (x && noneM mb) ∧ bs = []) := by
  refine AC.N Try.func23 Try.ntmps23 ?_
  intro X hρ hmks
  simp only [nx, Nat.reduceAdd, Nat.reduceSub, BEq.rfl]
  repeat' (first | ((first | ((with_reducible apply AP.k_any); first | refine AP.S ?_ | (refine AP.Y ?_; dsimp only) | refine AP.G (fun hg => ?_) (fun hg => ?_)) | ((with_reducible apply AP.k_any); refine AP.C (hof) ?_) | ((with_reducible apply AP.k_any); refine ap_callX rfl rfl (fn := f1) rfl (hmay) (by (repeat' (first | exact PasC.nil | apply PasC.nil | apply PasC.cons | apply PasV.leaf rfl | apply PasV.nl | apply PasV.bp rfl | apply PasV.lend rfl rfl rfl | apply PasV.lend rfl rfl (ro_B _) | apply PasV.lend rfl rfl (ro_M _) | apply PasV.lend rfl rfl (ro_E _ _) | apply PasV.lend rfl rfl (ro_I _) | apply PasV.lend rfl rfl (by (simp only [rn, List.map_cons, List.map_nil]; first | done | rfl)) | apply PasV.mv rfl | apply PasV.ag | apply PasV.fn | exact PasV.fs | apply PasV.any))) rfl rfl ?_) | ((with_reducible apply AP.k_any); refine ap_callX rfl rfl (fn := f2) rfl (hbare) (by (repeat' (first | exact PasC.nil | apply PasC.nil | apply PasC.cons | apply PasV.leaf rfl | apply PasV.nl | apply PasV.bp rfl | apply PasV.lend rfl rfl rfl | apply PasV.lend rfl rfl (ro_B _) | apply PasV.lend rfl rfl (ro_M _) | apply PasV.lend rfl rfl (ro_E _ _) | apply PasV.lend rfl rfl (ro_I _) | apply PasV.lend rfl rfl (by (simp only [rn, List.map_cons, List.map_nil]; first | done | rfl)) | apply PasV.mv rfl | apply PasV.ag | apply PasV.fn | exact PasV.fs | apply PasV.any))) rfl rfl ?_) | ((with_reducible apply AP.k_any); refine AP.C (none_ac mb) ?_)) <;> (try simp only [nx, Nat.reduceAdd, Nat.reduceSub, BEq.rfl])) | ((with_reducible apply AP.k_nil); first | (refine AP.nil (hQ' _ ?_); clear hQ' Q') | refine AP.nil ?_) | ((with_reducible apply CP.k_reg); refine cp_regG fun Q' hQ' => ?_) | refine CP.W ?_ | refine cp_cond rfl (fun hc => ?_) (fun hc => ?_) | (simp only [List.append_eq, List.cons_append, List.nil_append]))
  all_goals (refine RetQ.B [] ?_; (try dsimp only [resV, List.getD_cons_succ, List.getD_cons_zero]); ((refine ⟨?_, rfl⟩; simp at *; simp [*])))
theorem may_no (m : Msg) (h : m.kind.toNat = 0 ∨ 7 ≤ m.kind.toNat) : mayM m = false := by
  unfold mayM
  split <;> first | omega | rfl
theorem mayMsg_ac (m : Msg) (h1 : m.entries.length ≤ 100000000) (h2 : m.cfg.members.length ≤ 100000000) : AC Try.prog 23 [.ag (eG m)] [] (fun v bs => v = B (mayM m) ∧ bs = []) := by
  rcases kind_cases m.kind with h | h | h | h | h | h | h
  · have := mayG_ac _ _ _ _ m _ _ (of1_ac m h) (kmay1_ac m) (kbare2_ac m)
    rwa [show mayM m = (mayAsk m && noneM (bareAsk m)) from by simp only [mayM, h]]
  · have := mayG_ac _ _ _ _ m _ _ (of2_ac m h) (emay1_ac m h1) (ebare2_ac m)
    rwa [show mayM m = (mayEnt m && noneM (bareEnt m)) from by simp only [mayM, h]]
  · have := mayG_ac _ _ _ _ m _ _ (of3_ac m h) (kmay5_ac m) (kbare6_ac m)
    rwa [show mayM m = (mayHave m && noneM (bareHave m)) from by simp only [mayM, h]]
  · have := mayG_ac _ _ _ _ m _ _ (of4_ac m h) (kmay9_ac m h2) (kbare10_ac m)
    rwa [show mayM m = (mayCfg m.cfg && noneM (bareCfg m)) from by simp only [mayM, h]]
  · have := mayG_ac _ _ _ _ m _ _ (of5_ac m h) (kmay13_ac m) (kbare14_ac m)
    rwa [show mayM m = (mayWhole m && noneM (bareWhole m)) from by simp only [mayM, h]]
  · have := mayG_ac _ _ _ _ m _ _ (of6_ac m h) (kmay1_ac m) (kbare2_ac m)
    rwa [show mayM m = (mayAsk m && noneM (bareAsk m)) from by simp only [mayM, h]]
  · rw [may_no m h]
    refine AC.N Try.func23 Try.ntmps23 ?_
    intro X hρ hmks
    simp only [nx, Nat.reduceAdd, Nat.reduceSub, BEq.rfl]
    repeat' (first | ((first | ((with_reducible apply AP.k_any); first | refine AP.S ?_ | (refine AP.Y ?_; dsimp only) | refine AP.G (fun hg => ?_) (fun hg => ?_)) | ((with_reducible apply AP.k_any); refine AP.C (ofNo_ac m h) ?_)) <;> (try simp only [nx, Nat.reduceAdd, Nat.reduceSub, BEq.rfl])) | ((with_reducible apply AP.k_nil); first | (refine AP.nil (hQ' _ ?_); clear hQ' Q') | refine AP.nil ?_) | ((with_reducible apply CP.k_reg); refine cp_regG fun Q' hQ' => ?_) | refine CP.W ?_ | refine cp_cond rfl (fun hc => ?_) (fun hc => ?_) | (simp only [List.append_eq, List.cons_append, List.nil_append]))
    all_goals (refine RetQ.B [] ?_; (try dsimp only [resV, List.getD_cons_succ, List.getD_cons_zero]); (exact ⟨rfl, rfl⟩))
end Go.Proofs.Ytmiajenjgcdhgaa

namespace Go.Proofs.Ytmiajenjgcdhgaa
set_option linter.unusedVariables false
set_option linter.unusedSimpArgs false
set_option maxHeartbeats 8000000
open Go.RowKit
set_option maxRecDepth 100000
def beN (l : List UInt8) : Nat := l.foldl (fun x c => 256 * x + c.toNat) 0
theorem beN_snoc (l : List UInt8) (c : UInt8) : beN (l ++ [c]) = 256 * beN l + c.toNat := by simp [beN, List.foldl_append]
theorem beN_lt (l : List UInt8) : beN l < 256 ^ l.length := by
  have h : ∀ (l : List UInt8) (x : Nat), l.foldl (fun x c => 256 * x + c.toNat) x + 1 ≤ (x + 1) * 256 ^ l.length := by
    intro l
    induction l with
    | nil => intro x; simp
    | cons c l ih =>
      intro x
      refine Nat.le_trans (ih _) ?_
      rw [List.length_cons, Nat.pow_succ', ← Nat.mul_assoc]
      refine Nat.mul_le_mul_right _ ?_
      have := c.toNat_lt
      show 256 * x + c.toNat + 1 ≤ _
      omega
  have := h l 0
  simp only [beN]
  omega
def loadS (b : List UInt8) (p : Int) (n : Nat) : Nat × Bool := if p < 0 ∨ (b.length : Int) - n < p then (0, false) else (beN ((b.drop p.toNat).take n), true)
theorem or8 (x c : Nat) (hx : x < 2 ^ 56) (hc : c < 256) : IntKind.u64.wrap (BitVec.toNat (BitVec.ofInt 64 (IntKind.u64.wrap ((x : Int) * 2 ^ 8)) ||| BitVec.ofInt 64 (IntKind.u64.wrap (c : Int)))) = ((256 * x + c : Nat) : Int) := by
  have e1 : IntKind.u64.wrap ((x : Int) * 2 ^ 8) = ((x * 256 : Nat) : Int) := by simp [IntKind.wrap, IntKind.bits, IntKind.signed]; omega
  have e2 : IntKind.u64.wrap (c : Int) = (c : Int) := by simp [IntKind.wrap, IntKind.bits, IntKind.signed]; omega
  rw [e1, e2, BitVec.ofInt_natCast, BitVec.ofInt_natCast, BitVec.toNat_or, BitVec.toNat_ofNat, BitVec.toNat_ofNat, Nat.mod_eq_of_lt (by omega), Nat.mod_eq_of_lt (by omega)]
  have e3 : x * 256 ||| c = 256 * x + c := by
    have := Nat.shiftLeft_add_eq_or_of_lt (i := 8) (b := c) hc x
    rw [Nat.shiftLeft_eq, show (2 : Nat) ^ 8 = 256 from rfl] at this
    omega
  rw [e3]
  simp [IntKind.wrap, IntKind.bits, IntKind.signed]; omega
theorem or8' (x c : Nat) (hx : x < 2 ^ 56) (hc : c < 256) : IntKind.u64.wrap (BitVec.toNat (BitVec.ofInt IntKind.u64.bits (IntKind.u64.wrap ((x : Int) * 2 ^ min (Int.toNat 8) IntKind.u64.bits)) ||| BitVec.ofInt IntKind.u64.bits (IntKind.u64.wrap (c : Int)))) = ((256 * x + c : Nat) : Int) := or8 x c hx hc
theorem load_ac (b : List UInt8) (p : Int) (n : Nat) (hn : n ≤ 8) (hb : b.length ≤ 100000000) (hp : p ≤ 200000000) (hp2 : -1000000 ≤ p) :
    AC Try.prog 93 [bs none b, I p, I n] [] (fun v bs' => v = .tu [.sc (.int .u64 ((loadS b p n).1 : Int)), B (loadS b p n).2] ∧ bs' = []) := by
  have hw0 : IntKind.i64.wrap ((b.length : Int) - n) = (b.length : Int) - n := wrap_i64 (by omega) (by omega)
  have hw1 : IntKind.i64.wrap (p + n) = p + n := wrap_i64 (by omega) (by omega)
  by_cases hs : p < 0 ∨ (b.length : Int) - n < p
  · have e0 : loadS b p n = (0, false) := by simp [loadS, hs]
    rw [e0]
    refine AC.N Try.func93 Try.ntmps93 ?_
    intro X hρ hmks
    simp only [nx, Nat.reduceAdd, Nat.reduceSub, BEq.rfl]
    repeat' (first | ((first | ((with_reducible apply AP.k_any); first | refine AP.S ?_ | refine AP.E ?_ | (refine AP.Y ?_; dsimp only) | refine AP.G (fun hg => ?_) (fun hg => ?_))) <;> (try simp only [nx, Nat.reduceAdd, Nat.reduceSub, BEq.rfl])) | ((with_reducible apply AP.k_nil); first | (refine AP.nil (hQ' _ ?_); clear hQ' Q') | refine AP.nil ?_) | ((with_reducible apply CP.k_reg); refine cp_regG fun Q' hQ' => ?_) | refine CP.W ?_ | refine cp_cond rfl (fun hc => ?_) (fun hc => ?_) | (simp only [List.append_eq, List.cons_append, List.nil_append]))
    all_goals first
      | (refine RetQ.B [] ?_; (try dsimp only [resV, List.getD_cons_succ, List.getD_cons_zero]); (exact ⟨rfl, rfl⟩))
      | (exfalso; simp [hw0] at *; omega)
  · have e0 : loadS b p n = (beN ((b.drop p.toNat).take n), true) := by simp [loadS, hs]
    rw [e0]
    obtain ⟨q, rfl⟩ : ∃ q : Nat, p = q := ⟨p.toNat, by omega⟩
    have g1 : (q : Int) ≤ IntKind.i64.wrap ((q : Int) + n) := by rw [hw1]; omega
    have g2 : IntKind.i64.wrap ((q : Int) + n) ≤ ((b.map eB).length : Int) := by rw [hw1]; simp; omega
    have e2 : (b.drop q).take (((q : Int) + n).toNat - q) = (b.drop q).take n := by rw [show ((q : Int) + n).toNat - q = n by omega]
    have hl : ((b.drop q).take n).length = n := by (rw [List.length_take, List.length_drop]; omega)
    refine AC.N Try.func93 Try.ntmps93 ?_
    intro X hρ hmks
    simp only [nx, Nat.reduceAdd, Nat.reduceSub, BEq.rfl]
    repeat' (first | ((first | ((with_reducible apply AP.k_any); first | refine AP.S ?_ | refine AP.E ?_ | (refine AP.Y ?_; dsimp only) | refine AP.G (fun hg => ?_) (fun hg => ?_))) <;> (try simp only [nx, Nat.reduceAdd, Nat.reduceSub, BEq.rfl])) | ((with_reducible apply AP.k_nil); first | (refine AP.nil (hQ' _ ?_); clear hQ' Q') | refine AP.nil ?_) | ((with_reducible apply CP.k_reg); refine cp_regG fun Q' hQ' => ?_) | refine CP.W ?_ | refine cp_cond rfl (fun hc => ?_) (fun hc => ?_) | (simp only [List.append_eq, List.cons_append, List.nil_append]))
    all_goals first
      | (exfalso; simp [hw0] at *; omega)
      | skip
    · simp only [hw1, Int.toNat_natCast, e2]
      generalize (b.drop q).take n = c at hl e2 ⊢
      refine cp_loopS [8, 10, 28, 29, 30, 31, 32, 33, 34, 35, 36, 37] (fun k : Nat => c.length - k) (fun k => k ≤ c.length) (fun k => [(28, I k), (8, .sc (.int .u64 (beN (c.take k) : Int)))]) (fun _ => []) 0 (Nat.zero_le _) (by exact Gh.W) ?_
      rintro k hk
      simp only [setT, deT, setB, List.set_cons_succ, List.set_cons_zero]
      by_cases hlt : k < c.length
      · have hw : IntKind.i64.wrap ((k : Int) + 1) = ((k + 1 : Nat) : Int) := wrap_i64 (by omega) (by omega)
        have hb1 := beN_lt (c.take k)
        have hb2 : 256 ^ (c.take k).length ≤ 256 ^ 7 := Nat.pow_le_pow_right (by omega) (by simp; omega)
        have ho := or8' (beN (c.take k)) c[k].toNat (by omega) c[k].toNat_lt
        have hsn : beN (c.take (k + 1)) = 256 * beN (c.take k) + c[k].toNat := by rw [List.take_succ_eq_append_getElem hlt, beN_snoc]
        repeat' (first | ((first | ((with_reducible apply AP.k_any); first | refine AP.S ?_ | refine AP.E ?_ | (refine AP.Y ?_; dsimp only) | refine AP.G (fun hg => ?_) (fun hg => ?_))) <;> (try simp only [nx, Nat.reduceAdd, Nat.reduceSub, BEq.rfl])) | ((with_reducible apply AP.k_nil); first | (refine AP.nil (hQ' _ ?_); clear hQ' Q') | refine AP.nil ?_) | ((with_reducible apply CP.k_reg); refine cp_regG fun Q' hQ' => ?_) | refine CP.W ?_ | refine cp_cond rfl (fun hc => ?_) (fun hc => ?_) | (simp only [List.append_eq, List.cons_append, List.nil_append]))
        · simp only [hw]
          refine ⟨k + 1, by omega, by omega, ?_⟩
          rw [hsn, ← ho]
          exact Gh.W
        · exfalso; simp at *; omega
      · obtain rfl : k = c.length := by omega
        rw [List.take_length]
        repeat' (first | ((first | ((with_reducible apply AP.k_any); first | refine AP.S ?_ | refine AP.E ?_ | (refine AP.Y ?_; dsimp only) | refine AP.G (fun hg => ?_) (fun hg => ?_))) <;> (try simp only [nx, Nat.reduceAdd, Nat.reduceSub, BEq.rfl])) | ((with_reducible apply AP.k_nil); first | (refine AP.nil (hQ' _ ?_); clear hQ' Q') | refine AP.nil ?_) | ((with_reducible apply CP.k_reg); refine cp_regG fun Q' hQ' => ?_) | refine CP.W ?_ | refine cp_cond rfl (fun hc => ?_) (fun hc => ?_) | (simp only [List.append_eq, List.cons_append, List.nil_append]))
        all_goals first
          | (exfalso; simp at *; done)
          | (exfalso; simp at *; omega)
          | (refine RetQ.B [] ?_; (try dsimp only [resV, List.getD_cons_succ, List.getD_cons_zero]); (exact ⟨rfl, rfl⟩))
end Go.Proofs.Ytmiajenjgcdhgaa

namespace Go.Proofs.Ytmiajenjgcdhgaa
set_option linter.unusedVariables false
set_option linter.unusedSimpArgs false
set_option maxHeartbeats 8000000
open Go.RowKit
set_option maxRecDepth 100000
abbrev tRd : TypeId := 77
abbrev rB (st : Int × List UInt8) : Bx := .c tRd [B true, bs none st.2, I st.1]
def newR (b : List UInt8) : Int × List UInt8 := if 65536 < b.length then (3, []) else (0, b)
theorem rnew_ac (b : List UInt8) (hb : b.length ≤ 100000000) : AC Try.prog 19 [bs none b] [] (fun v bs' => v = .bp 0 0 0 ∧ bs' = [rB (newR b)]) := by
  by_cases h : 65536 < b.length
  · have e : newR b = (3, []) := by simp [newR, h]
    rw [e]
    refine AC.N Try.func19 Try.ntmps19 ?_
    intro X hρ hmks
    simp only [nx, Nat.reduceAdd, Nat.reduceSub, BEq.rfl]
    repeat' (first | ((first | ((with_reducible apply AP.k_any); first | refine AP.S ?_)) <;> (try simp only [nx, Nat.reduceAdd, Nat.reduceSub, BEq.rfl])) | ((with_reducible apply AP.k_nil); first | (refine AP.nil (hQ' _ ?_); clear hQ' Q') | refine AP.nil ?_) | ((with_reducible apply CP.k_reg); refine cp_regG fun Q' hQ' => ?_) | refine CP.W ?_ | refine cp_cond rfl (fun hc => ?_) (fun hc => ?_) | (simp only [List.append_eq, List.cons_append, List.nil_append]))
    · (exact RetQ.A [(0, 1)] (by exact ⟨rfl, rfl⟩))
    · exfalso; simp at *; omega
  · have e : newR b = (0, b) := by simp [newR, h]
    have hcat := (wcat_ac [b] (by simp) (by simp; omega)).ro (r2 := bs none b) (by simp [AV.ro, ro_B])
    rw [e]
    refine AC.N Try.func19 Try.ntmps19 ?_
    intro X hρ hmks
    simp only [nx, Nat.reduceAdd, Nat.reduceSub, BEq.rfl]
    repeat' (first | ((first | ((with_reducible apply AP.k_any); first | refine AP.Z ?_) | ((with_reducible apply AP.k_any); refine AP.C (hcat) ?_) | ((with_reducible apply AP.k_any); refine AP.gh (gh_fz (b := 0) (u := 1) rfl rfl (by (repeat' (first | exact FzC.nil | apply FzC.cons | exact FzV.hd | apply FzV.ag | exact FzV.same))) (by (repeat' (first | exact FzB.nil | apply FzB.c | apply FzB.same | exact FzC.nil | apply FzC.cons | exact FzV.hd | apply FzV.ag | exact FzV.same)))) ?_; first | simp only [roE, roC, AV.ro, ro_B, ro_M, ro_E] | simp only [roE, roC, AV.ro, ro_B])) <;> (try simp only [nx, Nat.reduceAdd, Nat.reduceSub, BEq.rfl])) | ((with_reducible apply AP.k_nil); first | (refine AP.nil (hQ' _ ?_); clear hQ' Q') | refine AP.nil ?_) | ((with_reducible apply CP.k_reg); refine cp_regG fun Q' hQ' => ?_) | refine CP.W ?_ | refine cp_cond rfl (fun hc => ?_) (fun hc => ?_) | (simp only [List.append_eq, List.cons_append, List.nil_append]))
    · exfalso; simp at *; omega
    · (exact RetQ.A [(0, 2)] (by exact ⟨rfl, rfl⟩))
theorem fine_ac (st : Int × List UInt8) : AC Try.prog 40 [.bp 0 0 0] [rB st] (fun v bs' => v = B (st.1 == 0) ∧ bs' = [rB st]) := by
  refine AC.N Try.func40 Try.ntmps40 ?_
  intro X hρ hmks
  simp only [nx, Nat.reduceAdd, Nat.reduceSub, BEq.rfl]
  repeat' (first | ((first | ((with_reducible apply AP.k_any); first | refine AP.S ?_ | (refine AP.Y ?_; dsimp only) | refine AP.G (fun hg => ?_) (fun hg => ?_) | (refine AP.V (fun c hnil => ?_); simp only [nz]))) <;> (try simp only [nx, Nat.reduceAdd, Nat.reduceSub, BEq.rfl])) | ((with_reducible apply AP.k_nil); first | (refine AP.nil (hQ' _ ?_); clear hQ' Q') | refine AP.nil ?_) | ((with_reducible apply CP.k_reg); refine cp_regG fun Q' hQ' => ?_) | refine CP.W ?_ | refine cp_cond rfl (fun hc => ?_) (fun hc => ?_) | (simp only [List.append_eq, List.cons_append, List.nil_append]))
  (exact RetQ.A [(0, 0)] (by exact ⟨rfl, rfl⟩))
theorem rbad_ac (st : Int × List UInt8) : AC Try.prog 41 [.bp 0 0 0] [rB st] (fun v bs' => v = .tu [] ∧ bs' = [rB (40, [])]) := by
  refine AC.N Try.func41 Try.ntmps41 ?_
  intro X hρ hmks
  simp only [nx, Nat.reduceAdd, Nat.reduceSub, BEq.rfl]
  repeat' (first | ((first | ((with_reducible apply AP.k_any); first | refine AP.S ?_)) <;> (try simp only [nx, Nat.reduceAdd, Nat.reduceSub, BEq.rfl])) | ((with_reducible apply AP.k_nil); first | (refine AP.nil (hQ' _ ?_); clear hQ' Q') | refine AP.nil ?_) | ((with_reducible apply CP.k_reg); refine cp_regG fun Q' hQ' => ?_) | refine CP.W ?_ | refine cp_cond rfl (fun hc => ?_) (fun hc => ?_) | (simp only [List.append_eq, List.cons_append, List.nil_append]))
  (exact RetQ.A [(0, 0)] (by exact ⟨rfl, rfl⟩))
def takeS {α : Type} (z : α) (f : List UInt8 → α × Bool) (n : Int) (st : Int × List UInt8) : α × (Int × List UInt8) :=
  if st.1 ≠ 0 then (z, st) else if n < 0 ∨ (st.2.length : Int) < n then (z, (40, []))
  else if (f (st.2.take n.toNat)).2 = true then ((f (st.2.take n.toNat)).1, (0, st.2.drop n.toNat)) else (z, (40, []))
theorem take1_ac  (f : Nat) (g : List UInt8 → UInt8 × Bool) (n : Int) (st : Int × List UInt8) (hst : st.2.length ≤ 100000000) (hf : ∀ b : List UInt8, b.length = n.toNat → b.length ≤ st.2.length → AC Try.prog f [bs none b] [] (fun v bs' => v = .tu [U (g b).1, B (g b).2] ∧ bs' = [])) :
    AC Try.prog 34 [.bp 0 0 0, I n, .fn f []] [rB st] (fun v bs' => v = U (takeS (0 : UInt8) g n st).1 ∧ bs' = [rB (takeS (0 : UInt8) g n st).2]) := by
  obtain ⟨e, b⟩ := st
  by_cases he : e = 0
  · subst he
    by_cases hn : n < 0 ∨ (b.length : Int) < n
    · have ht : takeS (0 : UInt8) g n (0, b) = ((0 : UInt8), (40, [])) := by simp only [takeS, hn]; simp
      rw [ht]
      refine AC.N Try.func34 Try.ntmps34 ?_
      intro X hρ hmks
      simp only [nx, Nat.reduceAdd, Nat.reduceSub, BEq.rfl]
      repeat' (first | ((first | ((with_reducible apply AP.k_any); first | refine AP.S ?_ | (refine AP.Y ?_; dsimp only) | refine AP.G (fun hg => ?_) (fun hg => ?_)) | ((with_reducible apply AP.k_any); refine AP.CB [(0, 0)] 0 (fine_ac (0, b)) ?_) | ((with_reducible apply AP.k_any); refine AP.CB [(0, 0)] 0 (rbad_ac (0, b)) ?_)) <;> (try simp only [nx, Nat.reduceAdd, Nat.reduceSub, BEq.rfl])) | ((with_reducible apply AP.k_nil); first | (refine AP.nil (hQ' _ ?_); clear hQ' Q') | refine AP.nil ?_) | ((with_reducible apply CP.k_reg); refine cp_regG fun Q' hQ' => ?_) | refine CP.W ?_ | refine cp_cond rfl (fun hc => ?_) (fun hc => ?_) | (simp only [List.append_eq, List.cons_append, List.nil_append]))
      all_goals first
        | (exfalso; simp at *; done)
        | (exfalso; simp at *; omega)
        | (exact RetQ.A [(0, 0)] (by exact ⟨rfl, rfl⟩))
    · have hl : (b.take n.toNat).length = n.toNat := by simp; omega
      have hf' := hf (b.take n.toNat) hl (by rw [List.length_take]; exact Nat.min_le_right _ _)
      have htk : List.take (b.length - n.toNat) (List.drop n.toNat b) = List.drop n.toNat b := List.take_of_length_le (by simp)
      have hn0 : 0 ≤ n := by omega
      have hn1 : n ≤ (b.length : Int) := by omega
      have hm : n ≤ ((b.map eB).length : Int) := by simp; omega
      have ht : takeS (0 : UInt8) g n (0, b) = if (g (b.take n.toNat)).2 = true then ((g (b.take n.toNat)).1, (0, b.drop n.toNat)) else ((0 : UInt8), (40, [])) := by simp only [takeS, hn]; simp
      rw [ht]
      cases hg2 : (g (b.take n.toNat)).2 with
      | true =>
        rw [hg2] at hf'
        simp only [if_true]
        refine AC.N Try.func34 Try.ntmps34 ?_
        intro X hρ hmks
        simp only [nx, Nat.reduceAdd, Nat.reduceSub, BEq.rfl]
        repeat' (first | ((first | ((with_reducible apply AP.k_any); first | refine AP.S ?_ | (refine AP.Y ?_; dsimp only) | refine AP.G (fun hg => ?_) (fun hg => ?_)) | ((with_reducible apply AP.k_any); refine AP.CB [(0, 0)] 0 (fine_ac (0, b)) ?_) | ((with_reducible apply AP.k_any); refine ap_callX rfl rfl (fn := f) rfl hf' (by (repeat' (first | exact PasC.nil | apply PasC.nil | apply PasC.cons | apply PasV.leaf rfl | apply PasV.nl | apply PasV.bp rfl | apply PasV.lend rfl rfl rfl | apply PasV.lend rfl rfl (ro_B _) | apply PasV.lend rfl rfl (ro_M _) | apply PasV.lend rfl rfl (ro_E _ _) | apply PasV.lend rfl rfl (ro_I _) | apply PasV.lend rfl rfl (by (simp only [rn, List.map_cons, List.map_nil]; first | done | rfl)) | apply PasV.mv rfl | apply PasV.ag | apply PasV.fn | exact PasV.fs | apply PasV.any))) rfl rfl ?_) | ((with_reducible apply AP.k_any); refine AP.CB [(0, 0)] 0 (rbad_ac (0, b)) ?_)) <;> (try simp only [nx, Nat.reduceAdd, Nat.reduceSub, BEq.rfl])) | ((with_reducible apply AP.k_nil); first | (refine AP.nil (hQ' _ ?_); clear hQ' Q') | refine AP.nil ?_) | ((with_reducible apply CP.k_reg); refine cp_regG fun Q' hQ' => ?_) | refine CP.W ?_ | refine cp_cond rfl (fun hc => ?_) (fun hc => ?_) | (simp only [List.append_eq, List.cons_append, List.nil_append]))
        all_goals first
          | (exfalso; simp at *; done)
          | (exfalso; simp at *; omega)
          | (simp only [htk]
             (exact RetQ.A [(0, 0)] (by exact ⟨rfl, rfl⟩)))
      | false =>
        rw [hg2] at hf'
        simp only [Bool.false_eq_true, if_false]
        refine AC.N Try.func34 Try.ntmps34 ?_
        intro X hρ hmks
        simp only [nx, Nat.reduceAdd, Nat.reduceSub, BEq.rfl]
        repeat' (first | ((first | ((with_reducible apply AP.k_any); first | refine AP.S ?_ | (refine AP.Y ?_; dsimp only) | refine AP.G (fun hg => ?_) (fun hg => ?_)) | ((with_reducible apply AP.k_any); refine AP.CB [(0, 0)] 0 (fine_ac (0, b)) ?_) | ((with_reducible apply AP.k_any); refine ap_callX rfl rfl (fn := f) rfl hf' (by (repeat' (first | exact PasC.nil | apply PasC.nil | apply PasC.cons | apply PasV.leaf rfl | apply PasV.nl | apply PasV.bp rfl | apply PasV.lend rfl rfl rfl | apply PasV.lend rfl rfl (ro_B _) | apply PasV.lend rfl rfl (ro_M _) | apply PasV.lend rfl rfl (ro_E _ _) | apply PasV.lend rfl rfl (ro_I _) | apply PasV.lend rfl rfl (by (simp only [rn, List.map_cons, List.map_nil]; first | done | rfl)) | apply PasV.mv rfl | apply PasV.ag | apply PasV.fn | exact PasV.fs | apply PasV.any))) rfl rfl ?_) | ((with_reducible apply AP.k_any); refine AP.CB [(0, 0)] 0 (rbad_ac (0, b)) ?_)) <;> (try simp only [nx, Nat.reduceAdd, Nat.reduceSub, BEq.rfl])) | ((with_reducible apply AP.k_nil); first | (refine AP.nil (hQ' _ ?_); clear hQ' Q') | refine AP.nil ?_) | ((with_reducible apply CP.k_reg); refine cp_regG fun Q' hQ' => ?_) | refine CP.W ?_ | refine cp_cond rfl (fun hc => ?_) (fun hc => ?_) | (simp only [List.append_eq, List.cons_append, List.nil_append]))
        all_goals first
          | (exfalso; simp at *; done)
          | (exfalso; simp at *; omega)
          | (exact RetQ.A [(0, 0)] (by exact ⟨rfl, rfl⟩))
  · have ht : takeS (0 : UInt8) g n (e, b) = ((0 : UInt8), (e, b)) := by simp [takeS, he]
    have hb : ((e : Int) == 0) = false := by simp [he]
    rw [ht]
    refine AC.N Try.func34 Try.ntmps34 ?_
    intro X hρ hmks
    simp only [nx, Nat.reduceAdd, Nat.reduceSub, BEq.rfl]
    repeat' (first | ((first | ((with_reducible apply AP.k_any); first | refine AP.S ?_ | (refine AP.Y ?_; dsimp only) | refine AP.G (fun hg => ?_) (fun hg => ?_)) | ((with_reducible apply AP.k_any); refine AP.CB [(0, 0)] 0 (fine_ac (e, b)) ?_)) <;> (try simp only [nx, Nat.reduceAdd, Nat.reduceSub, BEq.rfl])) | ((with_reducible apply AP.k_nil); first | (refine AP.nil (hQ' _ ?_); clear hQ' Q') | refine AP.nil ?_) | ((with_reducible apply CP.k_reg); refine cp_regG fun Q' hQ' => ?_) | refine CP.W ?_ | refine cp_cond rfl (fun hc => ?_) (fun hc => ?_) | (simp only [List.append_eq, List.cons_append, List.nil_append]))
    all_goals first
      | (exfalso; simp at *; done)
      | (exfalso; simp at *; omega)
      | (exact RetQ.A [(0, 0)] (by exact ⟨rfl, rfl⟩))
theorem take2_ac  (f : Nat) (g : List UInt8 → Bool × Bool) (n : Int) (st : Int × List UInt8) (hst : st.2.length ≤ 100000000) (hf : ∀ b : List UInt8, b.length = n.toNat → b.length ≤ st.2.length → AC Try.prog f [bs none b] [] (fun v bs' => v = .tu [B (g b).1, B (g b).2] ∧ bs' = [])) :
    AC Try.prog 97 [.bp 0 0 0, I n, .fn f []] [rB st] (fun v bs' => v = B (takeS false g n st).1 ∧ bs' = [rB (takeS false g n st).2]) := by
  obtain ⟨e, b⟩ := st
  by_cases he : e = 0
  · subst he
    by_cases hn : n < 0 ∨ (b.length : Int) < n
    · have ht : takeS false g n (0, b) = (false, (40, [])) := by simp only [takeS, hn]; simp
      rw [ht]
      refine AC.N Try.func97 Try.ntmps97 ?_
      intro X hρ hmks
      simp only [nx, Nat.reduceAdd, Nat.reduceSub, BEq.rfl]
      repeat' (first | ((first | ((with_reducible apply AP.k_any); first | refine AP.S ?_ | (refine AP.Y ?_; dsimp only) | refine AP.G (fun hg => ?_) (fun hg => ?_)) | ((with_reducible apply AP.k_any); refine AP.CB [(0, 0)] 0 (fine_ac (0, b)) ?_) | ((with_reducible apply AP.k_any); refine AP.CB [(0, 0)] 0 (rbad_ac (0, b)) ?_)) <;> (try simp only [nx, Nat.reduceAdd, Nat.reduceSub, BEq.rfl])) | ((with_reducible apply AP.k_nil); first | (refine AP.nil (hQ' _ ?_); clear hQ' Q') | refine AP.nil ?_) | ((with_reducible apply CP.k_reg); refine cp_regG fun Q' hQ' => ?_) | refine CP.W ?_ | refine cp_cond rfl (fun hc => ?_) (fun hc => ?_) | (simp only [List.append_eq, List.cons_append, List.nil_append]))
      all_goals first
        | (exfalso; simp at *; done)
        | (exfalso; simp at *; omega)
        | (exact RetQ.A [(0, 0)] (by exact ⟨rfl, rfl⟩))
    · have hl : (b.take n.toNat).length = n.toNat := by simp; omega
      have hf' := hf (b.take n.toNat) hl (by rw [List.length_take]; exact Nat.min_le_right _ _)
      have htk : List.take (b.length - n.toNat) (List.drop n.toNat b) = List.drop n.toNat b := List.take_of_length_le (by simp)
      have hn0 : 0 ≤ n := by omega
      have hn1 : n ≤ (b.length : Int) := by omega
      have hm : n ≤ ((b.map eB).length : Int) := by simp; omega
      have ht : takeS false g n (0, b) = if (g (b.take n.toNat)).2 = true then ((g (b.take n.toNat)).1, (0, b.drop n.toNat)) else (false, (40, [])) := by simp only [takeS, hn]; simp
      rw [ht]
      cases hg2 : (g (b.take n.toNat)).2 with
      | true =>
        rw [hg2] at hf'
        simp only [if_true]
        refine AC.N Try.func97 Try.ntmps97 ?_
        intro X hρ hmks
        simp only [nx, Nat.reduceAdd, Nat.reduceSub, BEq.rfl]
        repeat' (first | ((first | ((with_reducible apply AP.k_any); first | refine AP.S ?_ | (refine AP.Y ?_; dsimp only) | refine AP.G (fun hg => ?_) (fun hg => ?_)) | ((with_reducible apply AP.k_any); refine AP.CB [(0, 0)] 0 (fine_ac (0, b)) ?_) | ((with_reducible apply AP.k_any); refine ap_callX rfl rfl (fn := f) rfl hf' (by (repeat' (first | exact PasC.nil | apply PasC.nil | apply PasC.cons | apply PasV.leaf rfl | apply PasV.nl | apply PasV.bp rfl | apply PasV.lend rfl rfl rfl | apply PasV.lend rfl rfl (ro_B _) | apply PasV.lend rfl rfl (ro_M _) | apply PasV.lend rfl rfl (ro_E _ _) | apply PasV.lend rfl rfl (ro_I _) | apply PasV.lend rfl rfl (by (simp only [rn, List.map_cons, List.map_nil]; first | done | rfl)) | apply PasV.mv rfl | apply PasV.ag | apply PasV.fn | exact PasV.fs | apply PasV.any))) rfl rfl ?_) | ((with_reducible apply AP.k_any); refine AP.CB [(0, 0)] 0 (rbad_ac (0, b)) ?_)) <;> (try simp only [nx, Nat.reduceAdd, Nat.reduceSub, BEq.rfl])) | ((with_reducible apply AP.k_nil); first | (refine AP.nil (hQ' _ ?_); clear hQ' Q') | refine AP.nil ?_) | ((with_reducible apply CP.k_reg); refine cp_regG fun Q' hQ' => ?_) | refine CP.W ?_ | refine cp_cond rfl (fun hc => ?_) (fun hc => ?_) | (simp only [List.append_eq, List.cons_append, List.nil_append]))
        all_goals first
          | (exfalso; simp at *; done)
          | (exfalso; simp at *; omega)
          | (simp only [htk]
             (exact RetQ.A [(0, 0)] (by exact ⟨rfl, rfl⟩)))
      | false =>
        rw [hg2] at hf'
        simp only [Bool.false_eq_true, if_false]
        refine AC.N Try.func97 Try.ntmps97 ?_
        intro X hρ hmks
        simp only [nx, Nat.reduceAdd, Nat.reduceSub, BEq.rfl]
        repeat' (first | ((first | ((with_reducible apply AP.k_any); first | refine AP.S ?_ | (refine AP.Y ?_; dsimp only) | refine AP.G (fun hg => ?_) (fun hg => ?_)) | ((with_reducible apply AP.k_any); refine AP.CB [(0, 0)] 0 (fine_ac (0, b)) ?_) | ((with_reducible apply AP.k_any); refine ap_callX rfl rfl (fn := f) rfl hf' (by (repeat' (first | exact PasC.nil | apply PasC.nil | apply PasC.cons | apply PasV.leaf rfl | apply PasV.nl | apply PasV.bp rfl | apply PasV.lend rfl rfl rfl | apply PasV.lend rfl rfl (ro_B _) | apply PasV.lend rfl rfl (ro_M _) | apply PasV.lend rfl rfl (ro_E _ _) | apply PasV.lend rfl rfl (ro_I _) | apply PasV.lend rfl rfl (by (simp only [rn, List.map_cons, List.map_nil]; first | done | rfl)) | apply PasV.mv rfl | apply PasV.ag | apply PasV.fn | exact PasV.fs | apply PasV.any))) rfl rfl ?_) | ((with_reducible apply AP.k_any); refine AP.CB [(0, 0)] 0 (rbad_ac (0, b)) ?_)) <;> (try simp only [nx, Nat.reduceAdd, Nat.reduceSub, BEq.rfl])) | ((with_reducible apply AP.k_nil); first | (refine AP.nil (hQ' _ ?_); clear hQ' Q') | refine AP.nil ?_) | ((with_reducible apply CP.k_reg); refine cp_regG fun Q' hQ' => ?_) | refine CP.W ?_ | refine cp_cond rfl (fun hc => ?_) (fun hc => ?_) | (simp only [List.append_eq, List.cons_append, List.nil_append]))
        all_goals first
          | (exfalso; simp at *; done)
          | (exfalso; simp at *; omega)
          | (exact RetQ.A [(0, 0)] (by exact ⟨rfl, rfl⟩))
  · have ht : takeS false g n (e, b) = (false, (e, b)) := by simp [takeS, he]
    have hb : ((e : Int) == 0) = false := by simp [he]
    rw [ht]
    refine AC.N Try.func97 Try.ntmps97 ?_
    intro X hρ hmks
    simp only [nx, Nat.reduceAdd, Nat.reduceSub, BEq.rfl]
    repeat' (first | ((first | ((with_reducible apply AP.k_any); first | refine AP.S ?_ | (refine AP.Y ?_; dsimp only) | refine AP.G (fun hg => ?_) (fun hg => ?_)) | ((with_reducible apply AP.k_any); refine AP.CB [(0, 0)] 0 (fine_ac (e, b)) ?_)) <;> (try simp only [nx, Nat.reduceAdd, Nat.reduceSub, BEq.rfl])) | ((with_reducible apply AP.k_nil); first | (refine AP.nil (hQ' _ ?_); clear hQ' Q') | refine AP.nil ?_) | ((with_reducible apply CP.k_reg); refine cp_regG fun Q' hQ' => ?_) | refine CP.W ?_ | refine cp_cond rfl (fun hc => ?_) (fun hc => ?_) | (simp only [List.append_eq, List.cons_append, List.nil_append]))
    all_goals first
      | (exfalso; simp at *; done)
      | (exfalso; simp at *; omega)
      | (exact RetQ.A [(0, 0)] (by exact ⟨rfl, rfl⟩))
theorem take3_ac  (f : Nat) (g : List UInt8 → Int × Bool) (n : Int) (st : Int × List UInt8) (hst : st.2.length ≤ 100000000) (hf : ∀ b : List UInt8, b.length = n.toNat → b.length ≤ st.2.length → AC Try.prog f [bs none b] [] (fun v bs' => v = .tu [I (g b).1, B (g b).2] ∧ bs' = [])) :
    AC Try.prog 70 [.bp 0 0 0, I n, .fn f []] [rB st] (fun v bs' => v = I (takeS (0 : Int) g n st).1 ∧ bs' = [rB (takeS (0 : Int) g n st).2]) := by
  obtain ⟨e, b⟩ := st
  by_cases he : e = 0
  · subst he
    by_cases hn : n < 0 ∨ (b.length : Int) < n
    · have ht : takeS (0 : Int) g n (0, b) = ((0 : Int), (40, [])) := by simp only [takeS, hn]; simp
      rw [ht]
      refine AC.N Try.func70 Try.ntmps70 ?_
      intro X hρ hmks
      simp only [nx, Nat.reduceAdd, Nat.reduceSub, BEq.rfl]
      repeat' (first | ((first | ((with_reducible apply AP.k_any); first | refine AP.S ?_ | (refine AP.Y ?_; dsimp only) | refine AP.G (fun hg => ?_) (fun hg => ?_)) | ((with_reducible apply AP.k_any); refine AP.CB [(0, 0)] 0 (fine_ac (0, b)) ?_) | ((with_reducible apply AP.k_any); refine AP.CB [(0, 0)] 0 (rbad_ac (0, b)) ?_)) <;> (try simp only [nx, Nat.reduceAdd, Nat.reduceSub, BEq.rfl])) | ((with_reducible apply AP.k_nil); first | (refine AP.nil (hQ' _ ?_); clear hQ' Q') | refine AP.nil ?_) | ((with_reducible apply CP.k_reg); refine cp_regG fun Q' hQ' => ?_) | refine CP.W ?_ | refine cp_cond rfl (fun hc => ?_) (fun hc => ?_) | (simp only [List.append_eq, List.cons_append, List.nil_append]))
      all_goals first
        | (exfalso; simp at *; done)
        | (exfalso; simp at *; omega)
        | (exact RetQ.A [(0, 0)] (by exact ⟨rfl, rfl⟩))
    · have hl : (b.take n.toNat).length = n.toNat := by simp; omega
      have hf' := hf (b.take n.toNat) hl (by rw [List.length_take]; exact Nat.min_le_right _ _)
      have htk : List.take (b.length - n.toNat) (List.drop n.toNat b) = List.drop n.toNat b := List.take_of_length_le (by simp)
      have hn0 : 0 ≤ n := by omega
      have hn1 : n ≤ (b.length : Int) := by omega
      have hm : n ≤ ((b.map eB).length : Int) := by simp; omega
      have ht : takeS (0 : Int) g n (0, b) = if (g (b.take n.toNat)).2 = true then ((g (b.take n.toNat)).1, (0, b.drop n.toNat)) else ((0 : Int), (40, [])) := by simp only [takeS, hn]; simp
      rw [ht]
      cases hg2 : (g (b.take n.toNat)).2 with
      | true =>
        rw [hg2] at hf'
        simp only [if_true]
        refine AC.N Try.func70 Try.ntmps70 ?_
        intro X hρ hmks
        simp only [nx, Nat.reduceAdd, Nat.reduceSub, BEq.rfl]
        repeat' (first | ((first | ((with_reducible apply AP.k_any); first | refine AP.S ?_ | (refine AP.Y ?_; dsimp only) | refine AP.G (fun hg => ?_) (fun hg => ?_)) | ((with_reducible apply AP.k_any); refine AP.CB [(0, 0)] 0 (fine_ac (0, b)) ?_) | ((with_reducible apply AP.k_any); refine ap_callX rfl rfl (fn := f) rfl hf' (by (repeat' (first | exact PasC.nil | apply PasC.nil | apply PasC.cons | apply PasV.leaf rfl | apply PasV.nl | apply PasV.bp rfl | apply PasV.lend rfl rfl rfl | apply PasV.lend rfl rfl (ro_B _) | apply PasV.lend rfl rfl (ro_M _) | apply PasV.lend rfl rfl (ro_E _ _) | apply PasV.lend rfl rfl (ro_I _) | apply PasV.lend rfl rfl (by (simp only [rn, List.map_cons, List.map_nil]; first | done | rfl)) | apply PasV.mv rfl | apply PasV.ag | apply PasV.fn | exact PasV.fs | apply PasV.any))) rfl rfl ?_) | ((with_reducible apply AP.k_any); refine AP.CB [(0, 0)] 0 (rbad_ac (0, b)) ?_)) <;> (try simp only [nx, Nat.reduceAdd, Nat.reduceSub, BEq.rfl])) | ((with_reducible apply AP.k_nil); first | (refine AP.nil (hQ' _ ?_); clear hQ' Q') | refine AP.nil ?_) | ((with_reducible apply CP.k_reg); refine cp_regG fun Q' hQ' => ?_) | refine CP.W ?_ | refine cp_cond rfl (fun hc => ?_) (fun hc => ?_) | (simp only [List.append_eq, List.cons_append, List.nil_append]))
        all_goals first
          | (exfalso; simp at *; done)
          | (exfalso; simp at *; omega)
          | (simp only [htk]
             (exact RetQ.A [(0, 0)] (by exact ⟨rfl, rfl⟩)))
      | false =>
        rw [hg2] at hf'
        simp only [Bool.false_eq_true, if_false]
        refine AC.N Try.func70 Try.ntmps70 ?_
        intro X hρ hmks
        simp only [nx, Nat.reduceAdd, Nat.reduceSub, BEq.rfl]
        repeat' (first | ((first | ((with_reducible apply AP.k_any); first | refine AP.S ?_ | (refine AP.Y ?_; dsimp only) | refine AP.G (fun hg => ?_) (fun hg => ?_)) | ((with_reducible apply AP.k_any); refine AP.CB [(0, 0)] 0 (fine_ac (0, b)) ?_) | ((with_reducible apply AP.k_any); refine ap_callX rfl rfl (fn := f) rfl hf' (by (repeat' (first | exact PasC.nil | apply PasC.nil | apply PasC.cons | apply PasV.leaf rfl | apply PasV.nl | apply PasV.bp rfl | apply PasV.lend rfl rfl rfl | apply PasV.lend rfl rfl (ro_B _) | apply PasV.lend rfl rfl (ro_M _) | apply PasV.lend rfl rfl (ro_E _ _) | apply PasV.lend rfl rfl (ro_I _) | apply PasV.lend rfl rfl (by (simp only [rn, List.map_cons, List.map_nil]; first | done | rfl)) | apply PasV.mv rfl | apply PasV.ag | apply PasV.fn | exact PasV.fs | apply PasV.any))) rfl rfl ?_) | ((with_reducible apply AP.k_any); refine AP.CB [(0, 0)] 0 (rbad_ac (0, b)) ?_)) <;> (try simp only [nx, Nat.reduceAdd, Nat.reduceSub, BEq.rfl])) | ((with_reducible apply AP.k_nil); first | (refine AP.nil (hQ' _ ?_); clear hQ' Q') | refine AP.nil ?_) | ((with_reducible apply CP.k_reg); refine cp_regG fun Q' hQ' => ?_) | refine CP.W ?_ | refine cp_cond rfl (fun hc => ?_) (fun hc => ?_) | (simp only [List.append_eq, List.cons_append, List.nil_append]))
        all_goals first
          | (exfalso; simp at *; done)
          | (exfalso; simp at *; omega)
          | (exact RetQ.A [(0, 0)] (by exact ⟨rfl, rfl⟩))
  · have ht : takeS (0 : Int) g n (e, b) = ((0 : Int), (e, b)) := by simp [takeS, he]
    have hb : ((e : Int) == 0) = false := by simp [he]
    rw [ht]
    refine AC.N Try.func70 Try.ntmps70 ?_
    intro X hρ hmks
    simp only [nx, Nat.reduceAdd, Nat.reduceSub, BEq.rfl]
    repeat' (first | ((first | ((with_reducible apply AP.k_any); first | refine AP.S ?_ | (refine AP.Y ?_; dsimp only) | refine AP.G (fun hg => ?_) (fun hg => ?_)) | ((with_reducible apply AP.k_any); refine AP.CB [(0, 0)] 0 (fine_ac (e, b)) ?_)) <;> (try simp only [nx, Nat.reduceAdd, Nat.reduceSub, BEq.rfl])) | ((with_reducible apply AP.k_nil); first | (refine AP.nil (hQ' _ ?_); clear hQ' Q') | refine AP.nil ?_) | ((with_reducible apply CP.k_reg); refine cp_regG fun Q' hQ' => ?_) | refine CP.W ?_ | refine cp_cond rfl (fun hc => ?_) (fun hc => ?_) | (simp only [List.append_eq, List.cons_append, List.nil_append]))
    all_goals first
      | (exfalso; simp at *; done)
      | (exfalso; simp at *; omega)
      | (exact RetQ.A [(0, 0)] (by exact ⟨rfl, rfl⟩))
abbrev iB (x : Int) : Bx := .c 3 [I x]
theorem take5_ac (m l : Int) (f : Nat) (g : List UInt8 → Int × Bool) (n : Int) (st : Int × List UInt8) (hst : st.2.length ≤ 100000000) (hf : ∀ b : List UInt8, b.length = n.toNat → b.length ≤ st.2.length → AC Try.prog f [bs none b, .bp 0 0 0, .bp 1 0 0] [iB m, iB l] (fun v bs' => v = .tu [I (g b).1, B (g b).2] ∧ bs' = [iB m, iB l])) :
    AC Try.prog 70 [.bp 0 0 0, I n, .fn f [.bp 1 0 0, .bp 2 0 0]] [rB st, iB m, iB l] (fun v bs' => v = I (takeS (0 : Int) g n st).1 ∧ bs' = [rB (takeS (0 : Int) g n st).2, iB m, iB l]) := by
  obtain ⟨e, b⟩ := st
  by_cases he : e = 0
  · subst he
    by_cases hn : n < 0 ∨ (b.length : Int) < n
    · have ht : takeS (0 : Int) g n (0, b) = ((0 : Int), (40, [])) := by simp only [takeS, hn]; simp
      rw [ht]
      refine AC.N Try.func70 Try.ntmps70 ?_
      intro X hρ hmks
      simp only [nx, Nat.reduceAdd, Nat.reduceSub, BEq.rfl]
      repeat' (first | ((first | ((with_reducible apply AP.k_any); first | refine AP.S ?_ | (refine AP.Y ?_; dsimp only) | refine AP.G (fun hg => ?_) (fun hg => ?_)) | ((with_reducible apply AP.k_any); refine AP.CB [(0, 0)] 0 (fine_ac (0, b)) ?_) | ((with_reducible apply AP.k_any); refine AP.CB [(0, 0)] 0 (rbad_ac (0, b)) ?_)) <;> (try simp only [nx, Nat.reduceAdd, Nat.reduceSub, BEq.rfl])) | ((with_reducible apply AP.k_nil); first | (refine AP.nil (hQ' _ ?_); clear hQ' Q') | refine AP.nil ?_) | ((with_reducible apply CP.k_reg); refine cp_regG fun Q' hQ' => ?_) | refine CP.W ?_ | refine cp_cond rfl (fun hc => ?_) (fun hc => ?_) | (simp only [List.append_eq, List.cons_append, List.nil_append]))
      all_goals first
        | (exfalso; simp at *; done)
        | (exfalso; simp at *; omega)
        | (exact RetQ.A [(0, 0), (1, 0), (2, 0)] (by exact ⟨rfl, rfl⟩))
    · have hl : (b.take n.toNat).length = n.toNat := by simp; omega
      have hf' := hf (b.take n.toNat) hl (by rw [List.length_take]; exact Nat.min_le_right _ _)
      have htk : List.take (b.length - n.toNat) (List.drop n.toNat b) = List.drop n.toNat b := List.take_of_length_le (by simp)
      have hn0 : 0 ≤ n := by omega
      have hn1 : n ≤ (b.length : Int) := by omega
      have hm : n ≤ ((b.map eB).length : Int) := by simp; omega
      have ht : takeS (0 : Int) g n (0, b) = if (g (b.take n.toNat)).2 = true then ((g (b.take n.toNat)).1, (0, b.drop n.toNat)) else ((0 : Int), (40, [])) := by simp only [takeS, hn]; simp
      rw [ht]
      cases hg2 : (g (b.take n.toNat)).2 with
      | true =>
        rw [hg2] at hf'
        simp only [if_true]
        refine AC.N Try.func70 Try.ntmps70 ?_
        intro X hρ hmks
        simp only [nx, Nat.reduceAdd, Nat.reduceSub, BEq.rfl]
        repeat' (first | ((first | ((with_reducible apply AP.k_any); first | refine AP.S ?_ | (refine AP.Y ?_; dsimp only) | refine AP.G (fun hg => ?_) (fun hg => ?_)) | ((with_reducible apply AP.k_any); refine AP.CB [(0, 0)] 0 (fine_ac (0, b)) ?_) | ((with_reducible apply AP.k_any); refine ap_callB 0 [(1, 0), (2, 0)] rfl rfl (fn := f) rfl hf' (by (repeat' (first | exact PasC.nil | apply PasC.nil | apply PasC.cons | apply PasV.leaf rfl | apply PasV.nl | apply PasV.bp rfl | apply PasV.lend rfl rfl rfl | apply PasV.lend rfl rfl (ro_B _) | apply PasV.lend rfl rfl (ro_M _) | apply PasV.lend rfl rfl (ro_E _ _) | apply PasV.lend rfl rfl (ro_I _) | apply PasV.lend rfl rfl (by (simp only [rn, List.map_cons, List.map_nil]; first | done | rfl)) | apply PasV.mv rfl | apply PasV.ag | apply PasV.fn | exact PasV.fs | apply PasV.any))) (by (repeat' (first | exact Out.nil | apply Out.cons rfl | exact ClsC.nil | apply ClsC.nl | apply ClsC.leaf rfl | apply ClsC.hd rfl | apply ClsC.ob rfl | apply ClsC.mo rfl | apply ClsC.mp rfl | apply ClsC.hp rfl | apply ClsC.fn | apply ClsC.fz rfl (ro_B _) | apply ClsC.fz rfl (ro_M _) | apply ClsC.fz rfl (ro_E _ _) | apply ClsC.fz rfl rfl))) rfl (by (repeat' (first | exact Bk.nil | apply Bk.cons rfl rfl rfl))) (by (repeat' (first | exact RnV.leaf rfl | exact RnC.nil | apply RnC.cons | apply RnV.ag | apply RnV.tu | apply RnV.fn | exact RnV.bp rfl))) rfl ?_) | ((with_reducible apply AP.k_any); refine AP.CB [(0, 0)] 0 (rbad_ac (0, b)) ?_)) <;> (try simp only [nx, Nat.reduceAdd, Nat.reduceSub, BEq.rfl])) | ((with_reducible apply AP.k_nil); first | (refine AP.nil (hQ' _ ?_); clear hQ' Q') | refine AP.nil ?_) | ((with_reducible apply CP.k_reg); refine cp_regG fun Q' hQ' => ?_) | refine CP.W ?_ | refine cp_cond rfl (fun hc => ?_) (fun hc => ?_) | (simp only [List.append_eq, List.cons_append, List.nil_append]))
        all_goals first
          | (exfalso; simp at *; done)
          | (exfalso; simp at *; omega)
          | (simp only [htk]
             (exact RetQ.A [(0, 0), (1, 0), (2, 0)] (by exact ⟨rfl, rfl⟩)))
      | false =>
        rw [hg2] at hf'
        simp only [Bool.false_eq_true, if_false]
        refine AC.N Try.func70 Try.ntmps70 ?_
        intro X hρ hmks
        simp only [nx, Nat.reduceAdd, Nat.reduceSub, BEq.rfl]
        repeat' (first | ((first | ((with_reducible apply AP.k_any); first | refine AP.S ?_ | (refine AP.Y ?_; dsimp only) | refine AP.G (fun hg => ?_) (fun hg => ?_)) | ((with_reducible apply AP.k_any); refine AP.CB [(0, 0)] 0 (fine_ac (0, b)) ?_) | ((with_reducible apply AP.k_any); refine ap_callB 0 [(1, 0), (2, 0)] rfl rfl (fn := f) rfl hf' (by (repeat' (first | exact PasC.nil | apply PasC.nil | apply PasC.cons | apply PasV.leaf rfl | apply PasV.nl | apply PasV.bp rfl | apply PasV.lend rfl rfl rfl | apply PasV.lend rfl rfl (ro_B _) | apply PasV.lend rfl rfl (ro_M _) | apply PasV.lend rfl rfl (ro_E _ _) | apply PasV.lend rfl rfl (ro_I _) | apply PasV.lend rfl rfl (by (simp only [rn, List.map_cons, List.map_nil]; first | done | rfl)) | apply PasV.mv rfl | apply PasV.ag | apply PasV.fn | exact PasV.fs | apply PasV.any))) (by (repeat' (first | exact Out.nil | apply Out.cons rfl | exact ClsC.nil | apply ClsC.nl | apply ClsC.leaf rfl | apply ClsC.hd rfl | apply ClsC.ob rfl | apply ClsC.mo rfl | apply ClsC.mp rfl | apply ClsC.hp rfl | apply ClsC.fn | apply ClsC.fz rfl (ro_B _) | apply ClsC.fz rfl (ro_M _) | apply ClsC.fz rfl (ro_E _ _) | apply ClsC.fz rfl rfl))) rfl (by (repeat' (first | exact Bk.nil | apply Bk.cons rfl rfl rfl))) (by (repeat' (first | exact RnV.leaf rfl | exact RnC.nil | apply RnC.cons | apply RnV.ag | apply RnV.tu | apply RnV.fn | exact RnV.bp rfl))) rfl ?_) | ((with_reducible apply AP.k_any); refine AP.CB [(0, 0)] 0 (rbad_ac (0, b)) ?_)) <;> (try simp only [nx, Nat.reduceAdd, Nat.reduceSub, BEq.rfl])) | ((with_reducible apply AP.k_nil); first | (refine AP.nil (hQ' _ ?_); clear hQ' Q') | refine AP.nil ?_) | ((with_reducible apply CP.k_reg); refine cp_regG fun Q' hQ' => ?_) | refine CP.W ?_ | refine cp_cond rfl (fun hc => ?_) (fun hc => ?_) | (simp only [List.append_eq, List.cons_append, List.nil_append]))
        all_goals first
          | (exfalso; simp at *; done)
          | (exfalso; simp at *; omega)
          | (exact RetQ.A [(0, 0), (1, 0), (2, 0)] (by exact ⟨rfl, rfl⟩))
  · have ht : takeS (0 : Int) g n (e, b) = ((0 : Int), (e, b)) := by simp [takeS, he]
    have hb : ((e : Int) == 0) = false := by simp [he]
    rw [ht]
    refine AC.N Try.func70 Try.ntmps70 ?_
    intro X hρ hmks
    simp only [nx, Nat.reduceAdd, Nat.reduceSub, BEq.rfl]
    repeat' (first | ((first | ((with_reducible apply AP.k_any); first | refine AP.S ?_ | (refine AP.Y ?_; dsimp only) | refine AP.G (fun hg => ?_) (fun hg => ?_)) | ((with_reducible apply AP.k_any); refine AP.CB [(0, 0)] 0 (fine_ac (e, b)) ?_)) <;> (try simp only [nx, Nat.reduceAdd, Nat.reduceSub, BEq.rfl])) | ((with_reducible apply AP.k_nil); first | (refine AP.nil (hQ' _ ?_); clear hQ' Q') | refine AP.nil ?_) | ((with_reducible apply CP.k_reg); refine cp_regG fun Q' hQ' => ?_) | refine CP.W ?_ | refine cp_cond rfl (fun hc => ?_) (fun hc => ?_) | (simp only [List.append_eq, List.cons_append, List.nil_append]))
    all_goals first
      | (exfalso; simp at *; done)
      | (exfalso; simp at *; omega)
      | (exact RetQ.A [(0, 0), (1, 0), (2, 0)] (by exact ⟨rfl, rfl⟩))
end Go.Proofs.Ytmiajenjgcdhgaa

namespace Go.Proofs.Ytmiajenjgcdhgaa
set_option linter.unusedVariables false
set_option linter.unusedSimpArgs false
set_option maxHeartbeats 8000000
open Go.RowKit
set_option maxRecDepth 100000
theorem load64_ac (b : List UInt8) (hb : b.length ≤ 100000000) : AC Try.prog 72 [bs none b, I 0] [] (fun v bs' => v = .tu [.sc (.int .u64 ((loadS b 0 8).1 : Int)), B (loadS b 0 8).2] ∧ bs' = []) := by
  have h := load_ac b 0 8 (by omega) hb (by omega) (by omega)
  refine AC.N Try.func72 Try.ntmps72 ?_
  intro X hρ hmks
  simp only [nx, Nat.reduceAdd, Nat.reduceSub, BEq.rfl]
  repeat' (first | ((first | ((with_reducible apply AP.k_any); first | refine AP.S ?_) | ((with_reducible apply AP.k_any); refine AP.C (h) ?_)) <;> (try simp only [nx, Nat.reduceAdd, Nat.reduceSub, BEq.rfl])) | ((with_reducible apply AP.k_nil); first | (refine AP.nil (hQ' _ ?_); clear hQ' Q') | refine AP.nil ?_) | ((with_reducible apply CP.k_reg); refine cp_regG fun Q' hQ' => ?_) | refine CP.W ?_ | refine cp_cond rfl (fun hc => ?_) (fun hc => ?_) | (simp only [List.append_eq, List.cons_append, List.nil_append]))
  (refine RetQ.B [] ?_; (try dsimp only [resV, List.getD_cons_succ, List.getD_cons_zero]); (exact ⟨rfl, rfl⟩))
theorem ldw32_ac (b : List UInt8) (hb : b.length ≤ 100000000) : AC Try.prog 74 [bs none b, I 0] [] (fun v bs' => v = .tu [.sc (.int .u32 ((loadS b 0 4).1 : Int)), B (loadS b 0 4).2] ∧ bs' = []) := by
  have h := load_ac b 0 4 (by omega) hb (by omega) (by omega)
  have hw : IntKind.u32.wrap ((loadS b 0 4).1 : Int) = ((loadS b 0 4).1 : Int) := by
    have h1 : (loadS b 0 4).1 < 4294967296 := by
      unfold loadS
      split
      · simp
      · have := beN_lt ((b.drop (0 : Int).toNat).take 4)
        have h2 : 256 ^ ((b.drop (0 : Int).toNat).take 4).length ≤ 256 ^ 4 := Nat.pow_le_pow_right (by omega) (by simp; omega)
        simp at this h2 ⊢
        omega
    simp [IntKind.wrap, IntKind.bits, IntKind.signed]; omega
  refine AC.N Try.func74 Try.ntmps74 ?_
  intro X hρ hmks
  simp only [nx, Nat.reduceAdd, Nat.reduceSub, BEq.rfl]
  repeat' (first | ((first | ((with_reducible apply AP.k_any); first | refine AP.S ?_) | ((with_reducible apply AP.k_any); refine AP.C (h) ?_)) <;> (try simp only [nx, Nat.reduceAdd, Nat.reduceSub, BEq.rfl])) | ((with_reducible apply AP.k_nil); first | (refine AP.nil (hQ' _ ?_); clear hQ' Q') | refine AP.nil ?_) | ((with_reducible apply CP.k_reg); refine cp_regG fun Q' hQ' => ?_) | refine CP.W ?_ | refine cp_cond rfl (fun hc => ?_) (fun hc => ?_) | (simp only [List.append_eq, List.cons_append, List.nil_append]))
  simp only [hw]
  (refine RetQ.B [] ?_; (try dsimp only [resV, List.getD_cons_succ, List.getD_cons_zero]); (exact ⟨rfl, rfl⟩))
theorem loadS_all {b : List UInt8} {n : Nat} (h : b.length = n) : loadS b 0 n = (beN b, true) := by
  have h1 : ¬ ((0 : Int) < 0 ∨ (b.length : Int) - n < 0) := by omega
  simp only [loadS, if_neg h1]
  simp [← h]
def toI (n : Nat) : Int := IntKind.i64.wrap n
def byteG (b : List UInt8) : UInt8 × Bool := (b.headD 0, true)
def intG (b : List UInt8) : Int × Bool := (toI (beN b), true)
def flagG (b : List UInt8) : Bool × Bool := (b.headD 0 == 1, decide (b.headD 0 ≤ 1))
def lenG (b : List UInt8) : Int × Bool := (beN b, decide (beN b ≤ 65536))
def bytesG (b : List UInt8) : List UInt8 × Bool := (b, true)
def countG (m l : Int) (b : List UInt8) : Int × Bool := (toI (beN b), decide (0 ≤ toI (beN b)) && decide (toI (beN b) ≤ m) && decide (toI (beN b) ≤ l))
theorem len1 {b : List UInt8} (h : b.length = 1) : ∃ x, b = [x] := by
  match b, h with
  | [x], _ => exact ⟨x, rfl⟩
theorem rbyte1_ac (b : List UInt8) (h : b.length = 1) : AC Try.prog 35 [bs none b] [] (fun v bs' => v = .tu [U (byteG b).1, B (byteG b).2] ∧ bs' = []) := by
  obtain ⟨x, rfl⟩ := len1 h
  refine AC.N Try.func35 Try.ntmps35 ?_
  intro X hρ hmks
  simp only [nx, Nat.reduceAdd, Nat.reduceSub, BEq.rfl]
  repeat' (first | ((first | ((with_reducible apply AP.k_any); first | refine AP.S ?_ | refine AP.E ?_)) <;> (try simp only [nx, Nat.reduceAdd, Nat.reduceSub, BEq.rfl])) | ((with_reducible apply AP.k_nil); first | (refine AP.nil (hQ' _ ?_); clear hQ' Q') | refine AP.nil ?_) | ((with_reducible apply CP.k_reg); refine cp_regG fun Q' hQ' => ?_) | refine CP.W ?_ | refine cp_cond rfl (fun hc => ?_) (fun hc => ?_) | (simp only [List.append_eq, List.cons_append, List.nil_append]))
  (refine RetQ.B [] ?_; (try dsimp only [resV, List.getD_cons_succ, List.getD_cons_zero]); (exact ⟨rfl, rfl⟩))
theorem rint1_ac (b : List UInt8) (h : b.length = 8) : AC Try.prog 71 [bs none b] [] (fun v bs' => v = .tu [I (intG b).1, B (intG b).2] ∧ bs' = []) := by
  have hl := load64_ac b (by omega)
  rw [loadS_all h] at hl
  refine AC.N Try.func71 Try.ntmps71 ?_
  intro X hρ hmks
  simp only [nx, Nat.reduceAdd, Nat.reduceSub, BEq.rfl]
  repeat' (first | ((first | ((with_reducible apply AP.k_any); first | refine AP.S ?_) | ((with_reducible apply AP.k_any); refine AP.C (hl) ?_)) <;> (try simp only [nx, Nat.reduceAdd, Nat.reduceSub, BEq.rfl])) | ((with_reducible apply AP.k_nil); first | (refine AP.nil (hQ' _ ?_); clear hQ' Q') | refine AP.nil ?_) | ((with_reducible apply CP.k_reg); refine cp_regG fun Q' hQ' => ?_) | refine CP.W ?_ | refine cp_cond rfl (fun hc => ?_) (fun hc => ?_) | (simp only [List.append_eq, List.cons_append, List.nil_append]))
  (refine RetQ.B [] ?_; (try dsimp only [resV, List.getD_cons_succ, List.getD_cons_zero]); (exact ⟨rfl, rfl⟩))
theorem rflag1_ac (b : List UInt8) (h : b.length = 1) : AC Try.prog 98 [bs none b] [] (fun v bs' => v = .tu [B (flagG b).1, B (flagG b).2] ∧ bs' = []) := by
  obtain ⟨x, rfl⟩ := len1 h
  refine AC.N Try.func98 Try.ntmps98 ?_
  intro X hρ hmks
  simp only [nx, Nat.reduceAdd, Nat.reduceSub, BEq.rfl]
  repeat' (first | ((first | ((with_reducible apply AP.k_any); first | refine AP.S ?_ | refine AP.E ?_ | (refine AP.V (fun c hnil => ?_); simp only [nz])) | ((with_reducible apply AQ.k_any); first | refine AQ.S ?_ | refine AQ.E ?_)) <;> (try simp only [nx, Nat.reduceAdd, Nat.reduceSub, BEq.rfl])) | ((with_reducible apply AP.k_nil); first | (refine AP.nil (hQ' _ ?_); clear hQ' Q') | refine AP.nil ?_) | ((with_reducible apply AQ.k_nil); first | (refine AQ.nil (hQ' _ ?_); clear hQ' Q') | refine AQ.nil ?_) | ((with_reducible apply CP.k_drw); refine cp_drw (by kernel_rfl) (by kernel_rfl) fun Q' hQ' => ?_) | ((with_reducible apply CP.k_drw1); refine cp_draw (by kernel_rfl) (by kernel_rfl) ?_) | ((with_reducible apply CP.k_reg); refine cp_regG fun Q' hQ' => ?_) | refine CP.W ?_ | refine cp_cond rfl (fun hc => ?_) (fun hc => ?_) | (simp only [List.append_eq, List.cons_append, List.nil_append]))
  (refine RetQ.B [] ?_; (try dsimp only [resV, List.getD_cons_succ, List.getD_cons_zero]); ((refine ⟨?_, rfl⟩; simp [flagG, UInt8.le_iff_toNat_le, beq_iff_eq]; try (rw [Bool.eq_iff_iff]; simp [← UInt8.toNat_inj]; try omega))))
theorem rlen1_ac (b : List UInt8) (h : b.length = 4) : AC Try.prog 73 [bs none b] [] (fun v bs' => v = .tu [I (lenG b).1, B (lenG b).2] ∧ bs' = []) := by
  have hl := ldw32_ac b (by omega)
  rw [loadS_all h] at hl
  have hb := beN_lt b
  rw [h] at hb
  have hw : IntKind.i64.wrap (beN b : Int) = (beN b : Int) := wrap_i64 (by omega) (by omega)
  refine AC.N Try.func73 Try.ntmps73 ?_
  intro X hρ hmks
  simp only [nx, Nat.reduceAdd, Nat.reduceSub, BEq.rfl]
  repeat' (first | ((first | ((with_reducible apply AP.k_any); first | refine AP.S ?_) | ((with_reducible apply AP.k_any); refine AP.C (hl) ?_)) <;> (try simp only [nx, Nat.reduceAdd, Nat.reduceSub, BEq.rfl])) | ((with_reducible apply AP.k_nil); first | (refine AP.nil (hQ' _ ?_); clear hQ' Q') | refine AP.nil ?_) | ((with_reducible apply CP.k_reg); refine cp_regG fun Q' hQ' => ?_) | refine CP.W ?_ | refine cp_cond rfl (fun hc => ?_) (fun hc => ?_) | (simp only [List.append_eq, List.cons_append, List.nil_append]))
  simp only [hw]
  (refine RetQ.B [] ?_; (try dsimp only [resV, List.getD_cons_succ, List.getD_cons_zero]); ((refine ⟨?_, rfl⟩; simp [lenG]; try omega)))
theorem rcount1_ac (m l : Int) (b : List UInt8) (h : b.length = 8) : AC Try.prog 95 [bs none b, .bp 0 0 0, .bp 1 0 0] [iB m, iB l] (fun v bs' => v = .tu [I (countG m l b).1, B (countG m l b).2] ∧ bs' = [iB m, iB l]) := by
  have hl := load64_ac b (by omega)
  rw [loadS_all h] at hl
  refine AC.N Try.func95 Try.ntmps95 ?_
  intro X hρ hmks
  simp only [nx, Nat.reduceAdd, Nat.reduceSub, BEq.rfl]
  repeat' (first | ((first | ((with_reducible apply AP.k_any); first | refine AP.S ?_ | (refine AP.Y ?_; dsimp only) | refine AP.G (fun hg => ?_) (fun hg => ?_)) | ((with_reducible apply AP.k_any); refine AP.C (hl) ?_) | ((with_reducible apply AQ.k_any); first | refine AQ.S ?_ | (refine AQ.Y ?_; dsimp only) | refine AQ.G (fun hg => ?_) (fun hg => ?_))) <;> (try simp only [nx, Nat.reduceAdd, Nat.reduceSub, BEq.rfl])) | ((with_reducible apply AP.k_nil); first | (refine AP.nil (hQ' _ ?_); clear hQ' Q') | refine AP.nil ?_) | ((with_reducible apply AQ.k_nil); first | (refine AQ.nil (hQ' _ ?_); clear hQ' Q') | refine AQ.nil ?_) | ((with_reducible apply CP.k_drw); refine cp_drw (by kernel_rfl) (by kernel_rfl) fun Q' hQ' => ?_) | ((with_reducible apply CP.k_drw1); refine cp_draw (by kernel_rfl) (by kernel_rfl) ?_) | ((with_reducible apply CP.k_reg); refine cp_regG fun Q' hQ' => ?_) | refine CP.W ?_ | refine cp_cond rfl (fun hc => ?_) (fun hc => ?_) | (simp only [List.append_eq, List.cons_append, List.nil_append]))
  all_goals (refine RetQ.B [(0, 0), (1, 0)] ?_; (try dsimp only [resV, List.getD_cons_succ, List.getD_cons_zero]); ((refine ⟨?_, rfl⟩; simp at *; simp [countG, toI, *]; try (first | rfl | (intro h1; exfalso; have h2 := of_decide_eq_true h1; omega)))))
theorem takeS_len {α : Type} {z : α} {f : List UInt8 → α × Bool} {n : Int} {st : Int × List UInt8} {k : Nat} (h : st.2.length ≤ k) : (takeS z f n st).2.2.length ≤ k := by
  unfold takeS
  split
  · exact h
  · split
    · simp
    · split
      · simp; omega
      · simp
def byteR (st : Int × List UInt8) : UInt8 × (Int × List UInt8) := takeS 0 byteG 1 st
def intR (st : Int × List UInt8) : Int × (Int × List UInt8) := takeS 0 intG 8 st
def flagR (st : Int × List UInt8) : Bool × (Int × List UInt8) := takeS false flagG 1 st
def lenR (st : Int × List UInt8) : Int × (Int × List UInt8) := takeS 0 lenG 4 st
def bytesR (st : Int × List UInt8) : List UInt8 × (Int × List UInt8) := takeS [] bytesG (lenR st).1 (lenR st).2
def leftR (st : Int × List UInt8) : Int := if st.1 = 0 then st.2.length else 0
def countR (m : Int) (st : Int × List UInt8) : Int × (Int × List UInt8) := takeS 0 (countG m (leftR st - 8)) 8 st
def endR (st : Int × List UInt8) : Int := if st.1 = 0 then (if st.2 = [] then 0 else 40) else st.1
theorem rbyte_ac (st : Int × List UInt8) (hst : st.2.length ≤ 100000000) : AC Try.prog 20 [.bp 0 0 0] [rB st] (fun v bs' => v = U (byteR st).1 ∧ bs' = [rB (byteR st).2]) := by
  have h := take1_ac 35 byteG 1 st hst (fun b hb _ => rbyte1_ac b hb)
  refine AC.N Try.func20 Try.ntmps20 ?_
  intro X hρ hmks
  simp only [nx, Nat.reduceAdd, Nat.reduceSub, BEq.rfl]
  repeat' (first | ((first | ((with_reducible apply AP.k_any); first | refine AP.S ?_) | ((with_reducible apply AP.k_any); refine AP.CB [(0, 0)] 0 (h) ?_)) <;> (try simp only [nx, Nat.reduceAdd, Nat.reduceSub, BEq.rfl])) | ((with_reducible apply AP.k_nil); first | (refine AP.nil (hQ' _ ?_); clear hQ' Q') | refine AP.nil ?_) | ((with_reducible apply CP.k_reg); refine cp_regG fun Q' hQ' => ?_) | refine CP.W ?_ | refine cp_cond rfl (fun hc => ?_) (fun hc => ?_) | (simp only [List.append_eq, List.cons_append, List.nil_append]))
  (exact RetQ.A [(0, 0)] (by exact ⟨rfl, rfl⟩))
theorem rint_ac (st : Int × List UInt8) (hst : st.2.length ≤ 100000000) : AC Try.prog 49 [.bp 0 0 0] [rB st] (fun v bs' => v = I (intR st).1 ∧ bs' = [rB (intR st).2]) := by
  have h := take3_ac 71 intG 8 st hst (fun b hb _ => rint1_ac b hb)
  refine AC.N Try.func49 Try.ntmps49 ?_
  intro X hρ hmks
  simp only [nx, Nat.reduceAdd, Nat.reduceSub, BEq.rfl]
  repeat' (first | ((first | ((with_reducible apply AP.k_any); first | refine AP.S ?_) | ((with_reducible apply AP.k_any); refine AP.CB [(0, 0)] 0 (h) ?_)) <;> (try simp only [nx, Nat.reduceAdd, Nat.reduceSub, BEq.rfl])) | ((with_reducible apply AP.k_nil); first | (refine AP.nil (hQ' _ ?_); clear hQ' Q') | refine AP.nil ?_) | ((with_reducible apply CP.k_reg); refine cp_regG fun Q' hQ' => ?_) | refine CP.W ?_ | refine cp_cond rfl (fun hc => ?_) (fun hc => ?_) | (simp only [List.append_eq, List.cons_append, List.nil_append]))
  (exact RetQ.A [(0, 0)] (by exact ⟨rfl, rfl⟩))
theorem rflag_ac (st : Int × List UInt8) (hst : st.2.length ≤ 100000000) : AC Try.prog 91 [.bp 0 0 0] [rB st] (fun v bs' => v = B (flagR st).1 ∧ bs' = [rB (flagR st).2]) := by
  have h := take2_ac 98 flagG 1 st hst (fun b hb _ => rflag1_ac b hb)
  refine AC.N Try.func91 Try.ntmps91 ?_
  intro X hρ hmks
  simp only [nx, Nat.reduceAdd, Nat.reduceSub, BEq.rfl]
  repeat' (first | ((first | ((with_reducible apply AP.k_any); first | refine AP.S ?_) | ((with_reducible apply AP.k_any); refine AP.CB [(0, 0)] 0 (h) ?_)) <;> (try simp only [nx, Nat.reduceAdd, Nat.reduceSub, BEq.rfl])) | ((with_reducible apply AP.k_nil); first | (refine AP.nil (hQ' _ ?_); clear hQ' Q') | refine AP.nil ?_) | ((with_reducible apply CP.k_reg); refine cp_regG fun Q' hQ' => ?_) | refine CP.W ?_ | refine cp_cond rfl (fun hc => ?_) (fun hc => ?_) | (simp only [List.append_eq, List.cons_append, List.nil_append]))
  (exact RetQ.A [(0, 0)] (by exact ⟨rfl, rfl⟩))
theorem rleft_ac (st : Int × List UInt8) : AC Try.prog 94 [.bp 0 0 0] [rB st] (fun v bs' => v = I (leftR st) ∧ bs' = [rB st]) := by
  refine AC.N Try.func94 Try.ntmps94 ?_
  intro X hρ hmks
  simp only [nx, Nat.reduceAdd, Nat.reduceSub, BEq.rfl]
  repeat' (first | ((first | ((with_reducible apply AP.k_any); first | refine AP.S ?_) | ((with_reducible apply AP.k_any); refine AP.CB [(0, 0)] 0 (fine_ac st) ?_)) <;> (try simp only [nx, Nat.reduceAdd, Nat.reduceSub, BEq.rfl])) | ((with_reducible apply AP.k_nil); first | (refine AP.nil (hQ' _ ?_); clear hQ' Q') | refine AP.nil ?_) | ((with_reducible apply CP.k_reg); refine cp_regG fun Q' hQ' => ?_) | refine CP.W ?_ | refine cp_cond rfl (fun hc => ?_) (fun hc => ?_) | (simp only [List.append_eq, List.cons_append, List.nil_append]))
  · (refine RetQ.B [(0, 0)] ?_; (try dsimp only [resV, List.getD_cons_succ, List.getD_cons_zero]); ((refine ⟨?_, rfl⟩; simp at *; simp [leftR, *])))
  · (refine RetQ.B [(0, 0)] ?_; (try dsimp only [resV, List.getD_cons_succ, List.getD_cons_zero]); ((refine ⟨?_, rfl⟩; simp at *; simp [leftR, *])))
theorem rcount_ac (m : Int) (st : Int × List UInt8) (hst : st.2.length ≤ 100000000) : AC Try.prog 85 [.bp 0 0 0, I m] [rB st] (fun v bs' => v = I (countR m st).1 ∧ bs' = [rB (countR m st).2]) := by
  have h := take5_ac m (leftR st - 8) 95 (countG m (leftR st - 8)) 8 st hst (fun b hb _ => rcount1_ac m _ b hb)
  have hw : IntKind.i64.wrap (leftR st - 8) = leftR st - 8 := by
    have : 0 ≤ leftR st ∧ leftR st ≤ 100000000 := by unfold leftR; split <;> omega
    exact wrap_i64 (by omega) (by omega)
  refine AC.N Try.func85 Try.ntmps85 ?_
  intro X hρ hmks
  simp only [nx, Nat.reduceAdd, Nat.reduceSub, BEq.rfl]
  repeat' (first | ((first | ((with_reducible apply AP.k_any); first | refine AP.S ?_) | ((with_reducible apply AP.k_any); refine AP.CB [(0, 0)] 0 (rleft_ac st) ?_) | ((with_reducible apply AP.k_any); simp only [hw]; refine ap_callB 0 [(0, 0), (1, 1), (2, 1)] rfl rfl (fn := 70) rfl (h) (by (repeat' (first | exact PasC.nil | apply PasC.nil | apply PasC.cons | apply PasV.leaf rfl | apply PasV.nl | apply PasV.bp rfl | apply PasV.lend rfl rfl rfl | apply PasV.lend rfl rfl (ro_B _) | apply PasV.lend rfl rfl (ro_M _) | apply PasV.lend rfl rfl (ro_E _ _) | apply PasV.lend rfl rfl (ro_I _) | apply PasV.lend rfl rfl (by (simp only [rn, List.map_cons, List.map_nil]; first | done | rfl)) | apply PasV.mv rfl | apply PasV.ag | apply PasV.fn | exact PasV.fs | apply PasV.any))) (by (repeat' (first | exact Out.nil | apply Out.cons rfl | exact ClsC.nil | apply ClsC.nl | apply ClsC.leaf rfl | apply ClsC.hd rfl | apply ClsC.ob rfl | apply ClsC.mo rfl | apply ClsC.mp rfl | apply ClsC.hp rfl | apply ClsC.fn | apply ClsC.fz rfl (ro_B _) | apply ClsC.fz rfl (ro_M _) | apply ClsC.fz rfl (ro_E _ _) | apply ClsC.fz rfl rfl))) rfl (by (repeat' (first | exact Bk.nil | apply Bk.cons rfl rfl rfl))) (by (repeat' (first | exact RnV.leaf rfl | exact RnC.nil | apply RnC.cons | apply RnV.ag | apply RnV.tu | apply RnV.fn | exact RnV.bp rfl))) rfl ?_)) <;> (try simp only [nx, Nat.reduceAdd, Nat.reduceSub, BEq.rfl])) | ((with_reducible apply AP.k_nil); first | (refine AP.nil (hQ' _ ?_); clear hQ' Q') | refine AP.nil ?_) | ((with_reducible apply CP.k_reg); refine cp_regG fun Q' hQ' => ?_) | refine CP.W ?_ | refine cp_cond rfl (fun hc => ?_) (fun hc => ?_) | (simp only [List.append_eq, List.cons_append, List.nil_append]))
  (exact RetQ.A [(0, 0)] (by exact ⟨rfl, rfl⟩))
theorem rerr_ac (st : Int × List UInt8) : AC Try.prog 37 [.bp 0 0 0] [rB st] (fun v bs' => v = I st.1 ∧ bs' = [rB st]) := by
  refine AC.N Try.func37 Try.ntmps37 ?_
  intro X hρ hmks
  simp only [nx, Nat.reduceAdd, Nat.reduceSub, BEq.rfl]
  repeat' (first | ((first | ((with_reducible apply AP.k_any); first | refine AP.S ?_ | (refine AP.Y ?_; dsimp only) | refine AP.G (fun hg => ?_) (fun hg => ?_) | (refine AP.V (fun c hnil => ?_); simp only [nz]))) <;> (try simp only [nx, Nat.reduceAdd, Nat.reduceSub, BEq.rfl])) | ((with_reducible apply AP.k_nil); first | (refine AP.nil (hQ' _ ?_); clear hQ' Q') | refine AP.nil ?_) | ((with_reducible apply CP.k_reg); refine cp_regG fun Q' hQ' => ?_) | refine CP.W ?_ | refine cp_cond rfl (fun hc => ?_) (fun hc => ?_) | (simp only [List.append_eq, List.cons_append, List.nil_append]))
  (exact RetQ.A [(0, 0)] (by exact ⟨rfl, rfl⟩))
theorem rend_ac (st : Int × List UInt8) : AC Try.prog 22 [.bp 0 0 0] [rB st] (fun v bs' => v = I (endR st) ∧ bs' = [rB st]) := by
  refine AC.N Try.func22 Try.ntmps22 ?_
  intro X hρ hmks
  simp only [nx, Nat.reduceAdd, Nat.reduceSub, BEq.rfl]
  repeat' (first | ((first | ((with_reducible apply AP.k_any); first | refine AP.S ?_ | (refine AP.V (fun c hnil => ?_); simp only [nz])) | ((with_reducible apply AP.k_any); refine AP.CB [(0, 0)] 0 (rerr_ac st) ?_)) <;> (try simp only [nx, Nat.reduceAdd, Nat.reduceSub, BEq.rfl])) | ((with_reducible apply AP.k_nil); first | (refine AP.nil (hQ' _ ?_); clear hQ' Q') | refine AP.nil ?_) | ((with_reducible apply CP.k_reg); refine cp_regG fun Q' hQ' => ?_) | refine CP.W ?_ | refine cp_cond rfl (fun hc => ?_) (fun hc => ?_) | (simp only [List.append_eq, List.cons_append, List.nil_append]))
  all_goals (refine RetQ.B [(0, 0)] ?_; (try dsimp only [resV, List.getD_cons_succ, List.getD_cons_zero]); ((refine ⟨?_, rfl⟩; simp at *; simp [endR, *]; try (intro h; simp [h] at *))))
end Go.Proofs.Ytmiajenjgcdhgaa

namespace Go.Proofs.Ytmiajenjgcdhgaa
set_option linter.unusedVariables false
set_option linter.unusedSimpArgs false
set_option maxHeartbeats 8000000
open Go.RowKit
set_option maxRecDepth 100000
theorem intR_len {st : Int × List UInt8} {k : Nat} (h : st.2.length ≤ k) : (intR st).2.2.length ≤ k := takeS_len h
theorem flagR_len {st : Int × List UInt8} {k : Nat} (h : st.2.length ≤ k) : (flagR st).2.2.length ≤ k := takeS_len h
theorem byteR_len {st : Int × List UInt8} {k : Nat} (h : st.2.length ≤ k) : (byteR st).2.2.length ≤ k := takeS_len h
theorem bytesR_len {st : Int × List UInt8} {k : Nat} (h : st.2.length ≤ k) : (bytesR st).2.2.length ≤ k := takeS_len (takeS_len h)
theorem countR_len {m : Int} {st : Int × List UInt8} {k : Nat} (h : st.2.length ≤ k) : (countR m st).2.2.length ≤ k := takeS_len h
def restR (pos : Int) (st : Int × List UInt8) : Entry × (Int × List UInt8) :=
  (⟨pos, (intR st).1, (intR (intR st).2).1, (intR (intR (intR st).2).2).1, (bytesR (intR (intR (intR st).2).2).2).1⟩, (bytesR (intR (intR (intR st).2).2).2).2)
def memR (st : Int × List UInt8) : Member × (Int × List UInt8) := (⟨(intR st).1, (intR (intR st).2).1, (flagR (intR (intR st).2).2).1⟩, (flagR (intR (intR st).2).2).2)
def memsR : Nat → (Int × List UInt8) → List Member × (Int × List UInt8)
  | 0, st => ([], st)
  | n + 1, st => ((memR st).1 :: (memsR n (memR st).2).1, (memsR n (memR st).2).2)
def configR (st : Int × List UInt8) : Config × (Int × List UInt8) :=
  (⟨(intR st).1, (memsR (countR 5 (intR st).2).1.toNat (countR 5 (intR st).2).2).1⟩, (memsR (countR 5 (intR st).2).1.toNat (countR 5 (intR st).2).2).2)
theorem restR_len {p : Int} {st : Int × List UInt8} {k : Nat} (h : st.2.length ≤ k) : (restR p st).2.2.length ≤ k := bytesR_len (intR_len (intR_len (intR_len h)))
theorem memR_len {st : Int × List UInt8} {k : Nat} (h : st.2.length ≤ k) : (memR st).2.2.length ≤ k := flagR_len (intR_len (intR_len h))
theorem memsR_len {k : Nat} : ∀ {n : Nat} {st : Int × List UInt8}, st.2.length ≤ k → (memsR n st).2.2.length ≤ k
  | 0, _, h => h
  | n + 1, st, h => memsR_len (n := n) (st := (memR st).2) (memR_len h)
theorem memsR_snoc : ∀ (n : Nat) (st : Int × List UInt8), (memsR (n + 1) st).1 = (memsR n st).1 ++ [(memR (memsR n st).2).1] ∧ (memsR (n + 1) st).2 = (memR (memsR n st).2).2
  | 0, st => ⟨rfl, rfl⟩
  | n + 1, st => by
    have h := memsR_snoc n (memR st).2
    exact ⟨by show (memR st).1 :: (memsR (n + 1) (memR st).2).1 = _; rw [h.1]; rfl, h.2⟩
theorem memsR_fst_len : ∀ (n : Nat) (st : Int × List UInt8), (memsR n st).1.length = n
  | 0, _ => rfl
  | n + 1, st => by show (_ :: _).length = _; rw [List.length_cons, memsR_fst_len n]
theorem countR_le {m : Int} {st : Int × List UInt8} (hm : 0 ≤ m) : 0 ≤ (countR m st).1 ∧ (countR m st).1 ≤ m := by
  unfold countR takeS
  split
  · exact ⟨Int.le_refl _, hm⟩
  · split
    · exact ⟨Int.le_refl _, hm⟩
    · split
      · rename_i h
        simp [countG] at h
        exact ⟨h.1.1, h.1.2⟩
      · exact ⟨Int.le_refl _, hm⟩
theorem takeConfig_ac (st : Int × List UInt8) (hst : st.2.length ≤ 100000000) :
    AC Try.prog 62 [.bp 0 0 0] [rB st] (fun v bs => v = .ag (eC none (configR st).1) ∧ bs = [rB (configR st).2]) := by
  have h1 := intR_len hst
  have h2 := countR_len (m := 5) h1
  obtain ⟨hc0, hc5⟩ := countR_le (m := 5) (st := (intR st).2) (by omega)
  refine AC.N Try.func62 Try.ntmps62 ?_
  intro X hρ hmks
  simp only [nx, Nat.reduceAdd, Nat.reduceSub, BEq.rfl]
  repeat' (first | ((first | ((with_reducible apply AP.k_any); first | refine AP.S ?_) | ((with_reducible apply AP.k_any); refine AP.CB [(0, 0)] 0 (rint_ac st hst) ?_) | ((with_reducible apply AP.k_any); refine AP.CB [(0, 0)] 0 (rcount_ac 5 _ h1) ?_)) <;> (try simp only [nx, Nat.reduceAdd, Nat.reduceSub, BEq.rfl])) | ((with_reducible apply AP.k_nil); first | (refine AP.nil (hQ' _ ?_); clear hQ' Q') | refine AP.nil ?_) | ((with_reducible apply CP.k_reg); refine cp_regG fun Q' hQ' => ?_) | refine CP.W ?_ | refine cp_cond rfl (fun hc => ?_) (fun hc => ?_) | (simp only [List.append_eq, List.cons_append, List.nil_append]))
  refine CP.gh (gh_nilc (j := 2) (u := 1) (off := 1) (e := tM) (k := 3) rfl rfl) ?_
  simp only [nx, Nat.reduceAdd, Nat.reduceSub, BEq.rfl]
  refine CP.gh gh_slot ?_
  simp only [nx, Nat.reduceAdd, Nat.reduceSub, BEq.rfl]
  have h0 : (configR st) = (⟨(intR st).1, (memsR (countR 5 (intR st).2).1.toNat (countR 5 (intR st).2).2).1⟩, (memsR (countR 5 (intR st).2).1.toNat (countR 5 (intR st).2).2).2) := rfl
  rw [h0]
  clear h0
  obtain ⟨N, hN⟩ : ∃ N : Nat, (countR 5 (intR st).2).1 = N := ⟨(countR 5 (intR st).2).1.toNat, by omega⟩
  rw [hN] at hc5 ⊢
  rw [Int.toNat_natCast]
  generalize (countR 5 (intR st).2).2 = S0 at h2 ⊢
  refine cp_loopS [9, 10, 11, 12, 13, 14, 15, 16, 17, 18, 19, 20, 21, 22, 23] (fun a : Nat × Nat × Nat => N - a.1) (fun a => a.1 ≤ N) (fun a => [(9, I a.1)]) (fun a => [(0, ⟨0, rB (memsR a.1 S0).2⟩), (2, ⟨1, .c 27 [I (intR st).1, .hd 3 a.2.1]⟩), (3, ⟨a.2.1, .r tM 3 ((memsR a.1 S0).1.map eM)⟩), (4, ⟨a.2.2, .x⟩)]) (0, 1, 0) (Nat.zero_le _) (by exact Gh.W) ?_
  rintro ⟨k, u, v⟩ hk
  simp only [setT, deT, setB, List.set_cons_succ, List.set_cons_zero]
  dsimp only at hk
  have hS := memsR_len (n := k) h2
  have hL := memsR_fst_len k S0
  have hs1 := (memsR_snoc k S0).1
  have hs2 := (memsR_snoc k S0).2
  by_cases hlt : k < N
  · have hw : IntKind.i64.wrap ((k : Int) + 1) = ((k + 1 : Nat) : Int) := wrap_i64 (by omega) (by omega)
    generalize hms : memsR k S0 = ms at hS hL hs1 hs2 ⊢
    obtain ⟨ml, S⟩ := ms
    dsimp only at hS hL hs1 hs2 ⊢
    have g1 := intR_len hS
    have g2 := intR_len g1
    have hlen : (ml.map eM).length + 1 ≤ 1000000000 := by rw [List.length_map]; omega
    repeat' (first | ((first | ((with_reducible apply AP.k_any); first | refine AP.S ?_)) <;> (try simp only [nx, Nat.reduceAdd, Nat.reduceSub, BEq.rfl])) | ((with_reducible apply AP.k_nil); first | (refine AP.nil (hQ' _ ?_); clear hQ' Q') | refine AP.nil ?_) | ((with_reducible apply CP.k_reg); refine cp_regG fun Q' hQ' => ?_) | refine CP.W ?_ | refine cp_cond rfl (fun hc => ?_) (fun hc => ?_) | (simp only [List.append_eq, List.cons_append, List.nil_append]))
    · refine cp_drawI (fun zs zb => ⟨setT zs.t [(11, cond (zb.getD 0 false) (.bp 2 1 1) (.de)), (12, cond (zb.getD 1 false) (.hd 3 u) (.de)), (13, cond (zb.getD 2 false) (.bp 0 0 0) (.de)), (14, cond (zb.getD 3 false) (I (intR S).1) (.de)), (15, cond (zb.getD 4 false) (.bp 0 0 0) (.de)), (16, cond (zb.getD 5 false) (I (intR (intR S).2).1) (.de)), (17, cond (zb.getD 6 false) (.bp 0 0 0) (.de)), (18, cond (zb.getD 7 false) (B (flagR (intR (intR S).2).2).1) (.de)), (19, cond (zb.getD 8 false) (.ag (eM (memR S).1)) (.de)), (20, cond (zb.getD 9 false) (.hd 4 (v + 1)) (.de)), (21, cond (zb.getD 10 false) (.hd 3 (u + 1)) (.de)), (22, cond (zb.getD 11 false) (.bp 2 1 1) (.de))], ((((zs.b.set 0 (cond (zb.getD 7 false) (⟨0, rB (memR S).2⟩) (cond (zb.getD 5 false) (⟨0, rB (intR (intR S).2).2⟩) (cond (zb.getD 3 false) (⟨0, rB (intR S).2⟩) (zs.b.getD 0 ⟨0, .x⟩))))).set 2 (cond (zb.getD 12 false) (⟨1, .c 27 [I (intR st).1, .hd 3 (u + 1)]⟩) (zs.b.getD 2 ⟨0, .x⟩))).set 3 (cond (zb.getD 10 false) (⟨u + 1, .r tM 3 (ml.map eM ++ [eM (memR S).1])⟩) (zs.b.getD 3 ⟨0, .x⟩))).set 4 (cond (zb.getD 10 false) (⟨v + 1, .x⟩) (cond (zb.getD 9 false) (⟨v + 1, .r tM 3 [eM (memR S).1]⟩) (zs.b.getD 4 ⟨0, .x⟩))))⟩) (by kernel_rfl) (by kernel_rfl) (by kernel_rfl) ?_ ?_
      rotate_left
      simp only [cond_true, cond_false, setT, List.set_cons_succ, List.set_cons_zero, List.getD_cons_succ, List.getD_cons_zero, List.set_cons_succ, List.length_cons, List.length_nil, List.replicate_succ, List.replicate_zero, Nat.reduceAdd]
      rotate_left
      · intro b hb' hcl
        obtain ⟨l0, b0, rfl, hb0⟩ := len_cons hb'
        obtain ⟨l1, b1, rfl, hb1⟩ := len_cons hb0
        obtain ⟨l2, b2, rfl, hb2⟩ := len_cons hb1
        obtain ⟨l3, b3, rfl, hb3⟩ := len_cons hb2
        obtain ⟨l4, b4, rfl, hb4⟩ := len_cons hb3
        obtain ⟨l5, b5, rfl, hb5⟩ := len_cons hb4
        obtain ⟨l6, b6, rfl, hb6⟩ := len_cons hb5
        obtain ⟨l7, b7, rfl, hb7⟩ := len_cons hb6
        obtain ⟨l8, b8, rfl, hb8⟩ := len_cons hb7
        obtain ⟨l9, b9, rfl, hb9⟩ := len_cons hb8
        obtain ⟨l10, b10, rfl, hb10⟩ := len_cons hb9
        obtain ⟨l11, b11, rfl, hb11⟩ := len_cons hb10
        obtain ⟨l12, b12, rfl, hb12⟩ := len_cons hb11
        obtain rfl := List.length_eq_zero_iff.1 hb12
        clear hb' hb0 hb1 hb2 hb3 hb4 hb5 hb6 hb7 hb8 hb9 hb10 hb11 hb12
        · simp only [closedB, depsOk, Region.binds, List.toList_toArray, List.all_cons, List.all_nil, List.getD_cons_succ, List.getD_cons_zero, Bool.not_true, Bool.not_false, Bool.true_or, Bool.false_or, Bool.and_true, Bool.true_and, Bool.or_true, Bool.and_false, Bool.or_false, Bool.false_and, Bool.and_eq_true, Bool.or_eq_true, Bool.not_eq_true'] at hcl
          simp only [StepsP]
          refine ⟨?_, ?_, ?_, ?_, ?_, ?_, ?_, ?_, ?_, ?_, ?_, ?_, ?_, trivial⟩
          · intro h1 h2
            simp [depsOk, Region.binds] at h1 h2
            subst h1
            (repeat (obtain ⟨rfl, h2⟩ := h2))
            (try subst h2)
            clear hcl
            all_goals simp only [cond_true, cond_false, setT, List.set_cons_succ, List.set_cons_zero, List.getD_cons_succ, List.getD_cons_zero, List.set_cons_succ]
            all_goals ((with_reducible apply AP.k_any); first | (refine AP.sm false rfl ?_ ?_; focus ((repeat' (with_reducible apply And.intro)) <;> (first | exact True.intro | exact rfl | omega | decide | (simp; omega) | (simp; done) | assumption | exact .inl rfl | (refine .inr ?_; simp; try omega)))) | fail "no step")
            all_goals (try simp only [nx, Nat.reduceAdd, Nat.reduceSub, BEq.rfl])
            all_goals refine AP.nil ?_
            all_goals exact ⟨rfl, rfl⟩
          · intro h1 h2
            simp [depsOk, Region.binds] at h1 h2
            subst h1
            (repeat (obtain ⟨rfl, h2⟩ := h2))
            (try subst h2)
            (first | (obtain rfl : l10 = false := by grind only) | skip)
            (first | (obtain rfl : l12 = false := by grind only) | skip)
            clear hcl
            all_goals simp only [cond_true, cond_false, setT, List.set_cons_succ, List.set_cons_zero, List.getD_cons_succ, List.getD_cons_zero, List.set_cons_succ]
            all_goals ((with_reducible apply AP.k_any); first | (refine AP.sm false rfl ?_ ?_; focus ((repeat' (with_reducible apply And.intro)) <;> (first | exact True.intro | exact rfl | omega | decide | (simp; omega) | (simp; done) | assumption | exact .inl rfl | (refine .inr ?_; simp; try omega)))) | (refine AP.el rfl ?_ (by (first | (refine ⟨?_, ?_⟩; assumption; rfl) | exact ⟨mapAt (by (first | omega | (simp; omega) | (simp; done) | assumption)), rfl⟩ | exact ⟨rfl, rfl⟩)) ?_; focus ((repeat' (with_reducible apply And.intro)) <;> (first | exact True.intro | exact rfl | omega | decide | (simp; omega) | (simp; done) | assumption | exact .inl rfl | (refine .inr ?_; simp; try omega)))) | fail "no step")
            all_goals (try simp only [nx, Nat.reduceAdd, Nat.reduceSub, BEq.rfl])
            all_goals refine AP.nil ?_
            all_goals exact ⟨rfl, rfl⟩
          · intro h1 h2
            simp [depsOk, Region.binds] at h1 h2
            subst h1
            (repeat (obtain ⟨rfl, h2⟩ := h2))
            (try subst h2)
            clear hcl
            all_goals simp only [cond_true, cond_false, setT, List.set_cons_succ, List.set_cons_zero, List.getD_cons_succ, List.getD_cons_zero, List.set_cons_succ]
            all_goals ((with_reducible apply AP.k_any); first | (refine AP.sm false rfl ?_ ?_; focus ((repeat' (with_reducible apply And.intro)) <;> (first | exact True.intro | exact rfl | omega | decide | (simp; omega) | (simp; done) | assumption | exact .inl rfl | (refine .inr ?_; simp; try omega)))) | fail "no step")
            all_goals (try simp only [nx, Nat.reduceAdd, Nat.reduceSub, BEq.rfl])
            all_goals refine AP.nil ?_
            all_goals exact ⟨rfl, rfl⟩
          · intro h1 h2
            simp [depsOk, Region.binds] at h1 h2
            subst h1
            (repeat (obtain ⟨rfl, h2⟩ := h2))
            (try subst h2)
            (first | (obtain rfl : l5 = false := by grind only) | skip)
            (first | (obtain rfl : l7 = false := by grind only) | skip)
            (first | (obtain rfl : l9 = false := by grind only) | skip)
            (first | (obtain rfl : l10 = false := by grind only) | skip)
            (first | (obtain rfl : l12 = false := by grind only) | skip)
            clear hcl
            all_goals simp only [cond_true, cond_false, setT, List.set_cons_succ, List.set_cons_zero, List.getD_cons_succ, List.getD_cons_zero, List.set_cons_succ]
            (first
            | ((with_reducible apply AP.k_any); refine AP.CB [(0, 0)] 0 (rint_ac (intR S).2 g1) ?_)
            | ((with_reducible apply AP.k_any); refine AP.CB [(0, 0)] 0 (rint_ac S hS) ?_)
            | ((with_reducible apply AP.k_any); refine AP.CB [(0, 0)] 0 (rflag_ac _ g2) ?_)
            | fail "no arm")
            all_goals (try simp only [nx, Nat.reduceAdd, Nat.reduceSub, BEq.rfl])
            all_goals refine AP.nil ?_
            all_goals exact ⟨rfl, rfl⟩
          · intro h1 h2
            simp [depsOk, Region.binds] at h1 h2
            subst h1
            (repeat (obtain ⟨rfl, h2⟩ := h2))
            (try subst h2)
            clear hcl
            all_goals simp only [cond_true, cond_false, setT, List.set_cons_succ, List.set_cons_zero, List.getD_cons_succ, List.getD_cons_zero, List.set_cons_succ]
            all_goals ((with_reducible apply AP.k_any); first | (refine AP.sm false rfl ?_ ?_; focus ((repeat' (with_reducible apply And.intro)) <;> (first | exact True.intro | exact rfl | omega | decide | (simp; omega) | (simp; done) | assumption | exact .inl rfl | (refine .inr ?_; simp; try omega)))) | fail "no step")
            all_goals (try simp only [nx, Nat.reduceAdd, Nat.reduceSub, BEq.rfl])
            all_goals refine AP.nil ?_
            all_goals exact ⟨rfl, rfl⟩
          · intro h1 h2
            simp [depsOk, Region.binds] at h1 h2
            subst h1
            (repeat (obtain ⟨rfl, h2⟩ := h2))
            (try subst h2)
            (first | (obtain rfl : l3 = true := by grind only) | skip)
            (first | (obtain rfl : l7 = false := by grind only) | skip)
            (first | (obtain rfl : l9 = false := by grind only) | skip)
            (first | (obtain rfl : l10 = false := by grind only) | skip)
            (first | (obtain rfl : l12 = false := by grind only) | skip)
            clear hcl
            all_goals simp only [cond_true, cond_false, setT, List.set_cons_succ, List.set_cons_zero, List.getD_cons_succ, List.getD_cons_zero, List.set_cons_succ]
            (first
            | ((with_reducible apply AP.k_any); refine AP.CB [(0, 0)] 0 (rint_ac (intR S).2 g1) ?_)
            | ((with_reducible apply AP.k_any); refine AP.CB [(0, 0)] 0 (rint_ac S hS) ?_)
            | ((with_reducible apply AP.k_any); refine AP.CB [(0, 0)] 0 (rflag_ac _ g2) ?_)
            | fail "no arm")
            all_goals (try simp only [nx, Nat.reduceAdd, Nat.reduceSub, BEq.rfl])
            all_goals refine AP.nil ?_
            all_goals exact ⟨rfl, rfl⟩
          · intro h1 h2
            simp [depsOk, Region.binds] at h1 h2
            subst h1
            (repeat (obtain ⟨rfl, h2⟩ := h2))
            (try subst h2)
            clear hcl
            all_goals simp only [cond_true, cond_false, setT, List.set_cons_succ, List.set_cons_zero, List.getD_cons_succ, List.getD_cons_zero, List.set_cons_succ]
            all_goals ((with_reducible apply AP.k_any); first | (refine AP.sm false rfl ?_ ?_; focus ((repeat' (with_reducible apply And.intro)) <;> (first | exact True.intro | exact rfl | omega | decide | (simp; omega) | (simp; done) | assumption | exact .inl rfl | (refine .inr ?_; simp; try omega)))) | fail "no step")
            all_goals (try simp only [nx, Nat.reduceAdd, Nat.reduceSub, BEq.rfl])
            all_goals refine AP.nil ?_
            all_goals exact ⟨rfl, rfl⟩
          · intro h1 h2
            simp [depsOk, Region.binds] at h1 h2
            subst h1
            (repeat (obtain ⟨rfl, h2⟩ := h2))
            (try subst h2)
            (first | (obtain rfl : l3 = true := by grind only) | skip)
            (first | (obtain rfl : l5 = true := by grind only) | skip)
            (first | (obtain rfl : l9 = false := by grind only) | skip)
            (first | (obtain rfl : l10 = false := by grind only) | skip)
            (first | (obtain rfl : l12 = false := by grind only) | skip)
            clear hcl
            all_goals simp only [cond_true, cond_false, setT, List.set_cons_succ, List.set_cons_zero, List.getD_cons_succ, List.getD_cons_zero, List.set_cons_succ]
            (first
            | ((with_reducible apply AP.k_any); refine AP.CB [(0, 0)] 0 (rint_ac (intR S).2 g1) ?_)
            | ((with_reducible apply AP.k_any); refine AP.CB [(0, 0)] 0 (rint_ac S hS) ?_)
            | ((with_reducible apply AP.k_any); refine AP.CB [(0, 0)] 0 (rflag_ac _ g2) ?_)
            | fail "no arm")
            all_goals (try simp only [nx, Nat.reduceAdd, Nat.reduceSub, BEq.rfl])
            all_goals refine AP.nil ?_
            all_goals exact ⟨rfl, rfl⟩
          · intro h1 h2
            simp [depsOk, Region.binds] at h1 h2
            subst h1
            (repeat (obtain ⟨rfl, h2⟩ := h2))
            (try subst h2)
            clear hcl
            all_goals simp only [cond_true, cond_false, setT, List.set_cons_succ, List.set_cons_zero, List.getD_cons_succ, List.getD_cons_zero, List.set_cons_succ]
            all_goals ((with_reducible apply AP.k_any); first | (refine AP.sm false rfl ?_ ?_; focus ((repeat' (with_reducible apply And.intro)) <;> (first | exact True.intro | exact rfl | omega | decide | (simp; omega) | (simp; done) | assumption | exact .inl rfl | (refine .inr ?_; simp; try omega)))) | fail "no step")
            all_goals (try simp only [nx, Nat.reduceAdd, Nat.reduceSub, BEq.rfl])
            all_goals refine AP.nil ?_
            all_goals exact ⟨rfl, rfl⟩
          · intro h1 h2
            simp [depsOk, Region.binds] at h1 h2
            subst h1
            (repeat (obtain ⟨rfl, h2⟩ := h2))
            (try subst h2)
            (first | (obtain rfl : l3 = true := by grind only) | skip)
            (first | (obtain rfl : l5 = true := by grind only) | skip)
            (first | (obtain rfl : l7 = true := by grind only) | skip)
            (first | (obtain rfl : l10 = false := by grind only) | skip)
            (first | (obtain rfl : l12 = false := by grind only) | skip)
            clear hcl
            all_goals simp only [cond_true, cond_false, setT, List.set_cons_succ, List.set_cons_zero, List.getD_cons_succ, List.getD_cons_zero, List.set_cons_succ]
            all_goals ((with_reducible apply AP.k_any); first | (refine AP.sm false rfl ?_ ?_; focus ((repeat' (with_reducible apply And.intro)) <;> (first | exact True.intro | exact rfl | omega | decide | (simp; omega) | (simp; done) | assumption | exact .inl rfl | (refine .inr ?_; simp; try omega)))) | fail "no step")
            all_goals (try simp only [nx, Nat.reduceAdd, Nat.reduceSub, BEq.rfl])
            all_goals refine AP.nil ?_
            all_goals exact ⟨rfl, rfl⟩
          · intro h1 h2
            simp [depsOk, Region.binds] at h1 h2
            subst h1
            (repeat (obtain ⟨rfl, h2⟩ := h2))
            (try subst h2)
            (first | (obtain rfl : l3 = true := by grind only) | skip)
            (first | (obtain rfl : l5 = true := by grind only) | skip)
            (first | (obtain rfl : l7 = true := by grind only) | skip)
            (first | (obtain rfl : l9 = true := by grind only) | skip)
            (first | (obtain rfl : l12 = false := by grind only) | skip)
            clear hcl
            all_goals simp only [cond_true, cond_false, setT, List.set_cons_succ, List.set_cons_zero, List.getD_cons_succ, List.getD_cons_zero, List.set_cons_succ]
            all_goals ((with_reducible apply AP.k_any); first | (refine AP.sm false rfl ?_ ?_; focus ((repeat' (with_reducible apply And.intro)) <;> (first | exact True.intro | exact rfl | omega | decide | (simp; omega) | (simp; done) | assumption | exact .inl rfl | (refine .inr ?_; simp; try omega)))) | fail "no step")
            all_goals (try simp only [nx, Nat.reduceAdd, Nat.reduceSub, BEq.rfl])
            all_goals refine AP.nil ?_
            all_goals exact ⟨rfl, rfl⟩
          · intro h1 h2
            simp [depsOk, Region.binds] at h1 h2
            subst h1
            (repeat (obtain ⟨rfl, h2⟩ := h2))
            (try subst h2)
            clear hcl
            all_goals simp only [cond_true, cond_false, setT, List.set_cons_succ, List.set_cons_zero, List.getD_cons_succ, List.getD_cons_zero, List.set_cons_succ]
            all_goals ((with_reducible apply AP.k_any); first | (refine AP.sm false rfl ?_ ?_; focus ((repeat' (with_reducible apply And.intro)) <;> (first | exact True.intro | exact rfl | omega | decide | (simp; omega) | (simp; done) | assumption | exact .inl rfl | (refine .inr ?_; simp; try omega)))) | fail "no step")
            all_goals (try simp only [nx, Nat.reduceAdd, Nat.reduceSub, BEq.rfl])
            all_goals refine AP.nil ?_
            all_goals exact ⟨rfl, rfl⟩
          · intro h1 h2
            simp [depsOk, Region.binds] at h1 h2
            subst h1
            (repeat (obtain ⟨rfl, h2⟩ := h2))
            (try subst h2)
            (first | (obtain rfl : l3 = true := by grind only) | skip)
            (first | (obtain rfl : l5 = true := by grind only) | skip)
            (first | (obtain rfl : l7 = true := by grind only) | skip)
            (first | (obtain rfl : l9 = true := by grind only) | skip)
            (first | (obtain rfl : l10 = true := by grind only) | skip)
            clear hcl
            all_goals simp only [cond_true, cond_false, setT, List.set_cons_succ, List.set_cons_zero, List.getD_cons_succ, List.getD_cons_zero, List.set_cons_succ]
            all_goals ((with_reducible apply AP.k_any); first | (refine AP.sm false rfl ?_ ?_; focus ((repeat' (with_reducible apply And.intro)) <;> (first | exact True.intro | exact rfl | omega | decide | (simp; omega) | (simp; done) | assumption | exact .inl rfl | (refine .inr ?_; simp; try omega)))) | refine ap_storeE rfl rfl rfl rfl rfl rfl rfl rfl (by (first | (refine ⟨?_, ?_⟩; assumption; rfl) | exact ⟨mapAt (by (first | omega | (simp; omega) | (simp; done) | assumption)), rfl⟩ | exact ⟨rfl, rfl⟩)) (by exact rfl) ?_ | fail "no step")
            all_goals (try simp only [nx, Nat.reduceAdd, Nat.reduceSub, BEq.rfl])
            all_goals refine AP.nil ?_
            all_goals exact ⟨rfl, rfl⟩
      repeat' (first | ((first | ((with_reducible apply AP.k_any); first | refine AP.S ?_)) <;> (try simp only [nx, Nat.reduceAdd, Nat.reduceSub, BEq.rfl])) | ((with_reducible apply AP.k_nil); first | (refine AP.nil (hQ' _ ?_); clear hQ' Q') | refine AP.nil ?_) | ((with_reducible apply CP.k_reg); refine cp_regG fun Q' hQ' => ?_) | refine CP.W ?_ | refine cp_cond rfl (fun hc => ?_) (fun hc => ?_) | (simp only [List.append_eq, List.cons_append, List.nil_append]))
      simp only [hw]
      refine ⟨(k + 1, u + 1, v + 1), by (dsimp only; omega), by (dsimp only; omega), ?_⟩
      dsimp only
      rw [hs1, hs2, List.map_append, List.map_cons, List.map_nil]
      exact Gh.W
    · exfalso; simp at *; omega
  · obtain rfl : k = N := by omega
    refine CP.gh (gh_fz (b := 3) (u := u) rfl rfl (by (repeat' (first | exact FzC.nil | apply FzC.cons | exact FzV.hd | apply FzV.ag | exact FzV.same))) (by (repeat' (first | exact FzB.nil | apply FzB.c | apply FzB.same | exact FzC.nil | apply FzC.cons | exact FzV.hd | apply FzV.ag | exact FzV.same)))) ?_
    simp only [ro_M]
    repeat' (first | ((first | ((with_reducible apply AP.k_any); first | refine AP.S ?_)) <;> (try simp only [nx, Nat.reduceAdd, Nat.reduceSub, BEq.rfl])) | ((with_reducible apply AP.k_nil); first | (refine AP.nil (hQ' _ ?_); clear hQ' Q') | refine AP.nil ?_) | ((with_reducible apply CP.k_reg); refine cp_regG fun Q' hQ' => ?_) | refine CP.W ?_ | refine cp_cond rfl (fun hc => ?_) (fun hc => ?_) | (simp only [List.append_eq, List.cons_append, List.nil_append]))
    all_goals first
      | (exfalso; simp at *; done)
      | (exfalso; simp at *; omega)
      | (exact RetQ.A [(0, 0)] (by exact ⟨rfl, rfl⟩))
end Go.Proofs.Ytmiajenjgcdhgaa

namespace Go.Proofs.Ytmiajenjgcdhgaa
set_option linter.unusedVariables false
set_option linter.unusedSimpArgs false
set_option maxHeartbeats 8000000
open Go.RowKit
set_option maxRecDepth 100000
abbrev nl : AV := .sc (.slice none 0 0)
/-- a message of a kind, read so far -/
abbrev eZ (k : UInt8) (c i : Int) (b : AV) (u f : Int) (e : AV) (h d ep : Int) (ms : AV) (s : Int) : Bx := .c tMsg [U k, I c, I i, b, I u, I f, e, I h, I d, I ep, ms, I s]
abbrev St := Int × List UInt8
def takeAsk (k : UInt8) (st : St) : Msg × St := ({ msg0 with kind := k, client := (intR st).1, id := (intR (intR st).2).1, body := (bytesR (intR (intR st).2).2).1 }, (bytesR (intR (intR st).2).2).2)
def takeHave (k : UInt8) (st : St) : Msg × St := ({ msg0 with kind := k, have_ := (intR st).1, done := (intR (intR st).2).1 }, (intR (intR st).2).2)
def takeCfg (k : UInt8) (st : St) : Msg × St := ({ msg0 with kind := k, cfg := (configR st).1 }, (configR st).2)
def takeWhole (k : UInt8) (st : St) : Msg × St := ({ msg0 with kind := k, since := (intR st).1 }, (intR st).2)
/-- n entries from a position on -/
def entsR (p : Int) : Nat → Nat → St → List Entry × St
  | _, 0, st => ([], st)
  | i, n + 1, st => ((restR (IntKind.i64.wrap (p + i)) st).1 :: (entsR p (i + 1) n (restR (IntKind.i64.wrap (p + i)) st).2).1, (entsR p (i + 1) n (restR (IntKind.i64.wrap (p + i)) st).2).2)
def takeEnt (k : UInt8) (st : St) : Msg × St :=
  ({ msg0 with kind := k, upto := (intR st).1, frm := (intR (intR st).2).1, entries := (entsR (intR (intR st).2).1 0 (countR 4 (intR (intR st).2).2).1.toNat (countR 4 (intR (intR st).2).2).2).1 },
    (entsR (intR (intR st).2).1 0 (countR 4 (intR (intR st).2).2).1.toNat (countR 4 (intR (intR st).2).2).2).2)
theorem entsR_len {p : Int} {k : Nat} : ∀ {n i : Nat} {st : St}, st.2.length ≤ k → (entsR p i n st).2.2.length ≤ k
  | 0, _, _, h => h
  | n + 1, i, st, h => entsR_len (n := n) (i := i + 1) (restR_len h)
theorem entsR_fst_len (p : Int) : ∀ (n i : Nat) (st : St), (entsR p i n st).1.length = n
  | 0, _, _ => rfl
  | n + 1, i, st => by show (_ :: _).length = _; rw [List.length_cons, entsR_fst_len p n]
theorem entsR_snoc (p : Int) : ∀ (n i : Nat) (st : St), (entsR p i (n + 1) st).1 = (entsR p i n st).1 ++ [(restR (IntKind.i64.wrap (p + ((i + n : Nat) : Int))) (entsR p i n st).2).1] ∧ (entsR p i (n + 1) st).2 = (restR (IntKind.i64.wrap (p + ((i + n : Nat) : Int))) (entsR p i n st).2).2
  | 0, i, st => ⟨rfl, rfl⟩
  | n + 1, i, st => by
    have h := entsR_snoc p n (i + 1) (restR (IntKind.i64.wrap (p + i)) st).2
    have e : i + 1 + n = i + (n + 1) := by omega
    rw [e] at h
    refine ⟨?_, ?_⟩
    · show _ :: (entsR p (i + 1) (n + 1) _).1 = _
      rw [h.1]; rfl
    · show (entsR p (i + 1) (n + 1) _).2 = _
      rw [h.2]; rfl
end Go.Proofs.Ytmiajenjgcdhgaa

namespace Go.Proofs.Ytmiajenjgcdhgaa
set_option linter.unusedVariables false
set_option linter.unusedSimpArgs false
set_option maxHeartbeats 8000000
open Go.RowKit
set_option maxRecDepth 100000
def takeM (k : UInt8) (st : St) : Msg × St := match k.toNat with
  | 1 => takeAsk k st
  | 2 => takeEnt k st
  | 3 => takeHave k st
  | 4 => takeCfg k st
  | 5 => takeWhole k st
  | 6 => takeAsk k st
  | _ => (msg0, (40, []))
def readM (b : List UInt8) : Msg × St := takeM (byteR (newR b)).1 (byteR (newR b)).2
def parseM (b : List UInt8) : Msg × Int := if endR (readM b).2 = 0 ∧ mayM (readM b).1 = true then ((readM b).1, 0) else (msg0, 200)
theorem newR_le {b : List UInt8} {k : Nat} (h : b.length ≤ k) : (newR b).2.length ≤ k := by
  unfold newR
  split
  · simp
  · exact h
end Go.Proofs.Ytmiajenjgcdhgaa

namespace Go.Proofs.Ytmiajenjgcdhgaa
set_option linter.unusedVariables false
set_option linter.unusedSimpArgs false
open Go.RowKit
set_option maxRecDepth 100000
inductive Sh where
  | i (k : IntKind)
  | b
  | s
deriving DecidableEq
/-- a cell held against another one -/
def eqV1 : Value → Value → Bool
  | .int _ a, .int _ b => a == b
  | .bool a, .bool b => a == b
  | .string a, .string b => a.toList == b.toList
  | _, _ => false
def eqVs : List Value → List Value → Bool
  | [], [] => true
  | x :: l, y :: m => eqV1 x y && eqVs l m
  | _, _ => false
def shC1 : Sh → Value → Bool
  | .i k, .int k' _ => decide (k' = k)
  | .b, .bool _ => true
  | .s, .string _ => true
  | _, _ => false
def shC : List Sh → List Value → Bool
  | [], [] => true
  | h :: l, v :: m => shC1 h v && shC l m
  | _, _ => false
def repS (sh : List Sh) : Nat → List Sh
  | 0 => []
  | n + 1 => sh ++ repS sh n
def aggT (P : Program) (t : TypeId) : Bool := match P.underlying t with
  | some (.struct _) | some (.array _ _) => true
  | _ => false
def flatFs (f : TypeId → Option (List Sh)) : Nat → List Field → Option (List Sh)
  | _, [] => some []
  | off, x :: l => match x.name != "_" && Nat.beq x.offset off, f x.type with
    | true, some sh => match flatFs f (off + sh.length) l with
      | some r => some (sh ++ r)
      | none => none
    | _, _ => none
def flatT (P : Program) : Nat → TypeId → Option (List Sh)
  | 0, _ => none
  | d + 1, t => match P.underlying t with
    | some .bool => some [.b]
    | some (.int k) => some [.i k]
    | some .string => some [.s]
    | some (.array n e) => match flatT P d e with
      | some sh => match Nat.beq (P.cellsOf e) sh.length with
        | true => some (repS sh n)
        | false => none
      | none => none
    | some (.struct fs) => match P.stoodInHeld t with
      | true => none
      | false => flatFs (fun u => match flatT P d u with
        | some sh => match Nat.beq (P.cellsOf u) sh.length with
          | true => some sh
          | false => none
        | none => none) 0 fs.toList
    | _ => none
theorem eqVs_append : ∀ {a b c d : List Value}, a.length = b.length → eqVs (a ++ c) (b ++ d) = (eqVs a b && eqVs c d)
  | [], [], c, d, _ => by simp [eqVs]
  | x :: a, y :: b, c, d, h => by simp only [List.cons_append, eqVs]; rw [eqVs_append (by simpa using h), Bool.and_assoc]
theorem shC_length : ∀ {sh : List Sh} {vs : List Value}, shC sh vs = true → vs.length = sh.length
  | [], [], _ => rfl
  | _ :: l, _ :: m, h => by simp only [shC, Bool.and_eq_true] at h; simp [shC_length h.2]
theorem shC_split : ∀ {a b : List Sh} {vs : List Value}, shC (a ++ b) vs = true → shC a (vs.take a.length) = true ∧ shC b (vs.drop a.length) = true
  | [], b, vs, h => ⟨by simp [shC], by simpa using h⟩
  | x :: a, b, [], h => by simp [shC] at h
  | x :: a, b, v :: vs, h => by
    simp only [List.cons_append, shC, Bool.and_eq_true] at h
    have := shC_split h.2
    simp only [List.length_cons, List.take_succ_cons, shC, Bool.and_eq_true, List.drop_succ_cons]
    exact ⟨⟨h.1, this.1⟩, this.2⟩
def valT (P : Program) (t : TypeId) (cs : List Value) : Value := match aggT P t with
  | true => .agg cs.toArray
  | false => cs.headD undef
section
variable {P : Program}
theorem run_part_flat {d : Nat} {e : TypeId} {sh : List Sh} (hf : flatT P d e = some sh) (hn : P.cellsOf e = sh.length) (w : World) (xs : List Value) (off : Nat) (h : shC sh ((xs.drop off).take sh.length) = true) :
    (part e xs.toArray off).run P w = .ok (valT P e ((xs.drop off).take sh.length)) w := by
  have hl := shC_length h
  cases d with
  | zero => simp [flatT] at hf
  | succ d =>
    cases hu : P.underlying e with
    | none => simp [flatT, hu] at hf
    | some kd =>
      obtain ⟨i, hi⟩ := info_of_underlying hu
      have agg : aggT P e = true → (part e xs.toArray off).run P w = .ok (valT P e ((xs.drop off).take sh.length)) w := by
        intro ha
        have hk : (∃ n e', kd = .array n e') ∨ (∃ fs, kd = .struct fs) := by
          unfold aggT at ha
          rw [hu] at ha
          cases kd <;> simp at ha <;> first | exact .inl ⟨_, _, rfl⟩ | exact .inr ⟨_, rfl⟩
        have hs : (sizeOf e).run P w = .ok sh.length w := by rw [run_sizeOf w hi, hn]
        unfold part valT
        rw [ha]
        have hx : (xs.toArray.extract off (off + sh.length)) = ((xs.drop off).take sh.length).toArray := by
          simp [List.extract_toArray, List.extract_eq_take_drop]
        rcases hk with ⟨n, e', rfl⟩ | ⟨fs, rfl⟩ <;> simp [Sem.run_bind, isAgg, run_underlying hu, hs, hx, Result.andThen_ok]
      have one : aggT P e = false → sh.length = 1 → (part e xs.toArray off).run P w = .ok (valT P e ((xs.drop off).take sh.length)) w := by
        intro ha h1
        have hk : (isAgg e).run P w = .ok false w := by
          unfold aggT at ha
          rw [hu] at ha
          cases kd <;> simp at ha <;> simp [isAgg, Sem.run_bind, run_underlying hu, Result.andThen_ok]
        rw [h1] at hl h ⊢
        unfold part valT
        rw [ha]
        obtain ⟨v, hv⟩ : ∃ v, xs[off]? = some v := by
          rw [List.length_take, List.length_drop] at hl
          exact ⟨_, List.getElem?_eq_getElem (by omega)⟩
        have hd : (xs.drop off).take 1 = [v] := by
          have h2 : off < xs.length := (List.getElem?_eq_some_iff.1 hv).1
          rw [List.drop_eq_getElem_cons h2]
          rw [List.getElem?_eq_getElem h2] at hv
          simp at hv; simp [hv]
        rw [hd]
        simp [Sem.run_bind, hk, Result.andThen_ok, hv]
      cases hA : aggT P e with
      | true => exact agg hA
      | false =>
        refine one hA ?_
        unfold flatT at hf
        rw [hu] at hf
        unfold aggT at hA
        rw [hu] at hA
        cases kd <;> simp at hf hA <;> (subst hf; rfl)
def EqF (P : Program) (dd : Nat) (t : TypeId) (sh : List Sh) : Prop :=
  ∀ (w : World) (xs ys : List Value), shC sh xs = true → shC sh ys = true → (Op.equalIn dd t (valT P t xs) (valT P t ys)).run P w = .ok (eqVs xs ys) w
theorem valT_agg {t : TypeId} {cs : List Value} (h : aggT P t = true) : valT P t cs = .agg cs.toArray := by unfold valT; rw [h]
theorem run_eqFields_flat {dd : Nat} {f : TypeId → Option (List Sh)} (hf : ∀ u sh, f u = some sh → P.cellsOf u = sh.length ∧ (∃ d, flatT P d u = some sh) ∧ EqF P dd u sh) (xs ys : List Value) (w : World) : ∀ (fs : List Field) (off : Nat) (sh : List Sh), flatFs f off fs = some sh →
    shC sh (xs.drop off) = true → shC sh (ys.drop off) = true → (Op.eqFields dd xs.toArray ys.toArray fs).run P w = .ok (eqVs (xs.drop off) (ys.drop off)) w
  | [], off, sh, h, h1, h2 => by
    simp only [flatFs, Option.some.injEq] at h; subst h
    have a1 := List.length_eq_zero_iff.1 (shC_length h1)
    have a2 := List.length_eq_zero_iff.1 (shC_length h2)
    simp [Op.eqFields, a1, a2, eqVs]
  | x :: l, off, sh, h, h1, h2 => by
    unfold flatFs at h
    split at h <;> try cases h
    rename_i sx hx hfx
    split at h <;> try cases h
    rename_i r hr
    simp only [Bool.and_eq_true, bne_iff_ne, ne_eq] at hx
    obtain ⟨hn, ho⟩ := hx
    have ho : x.offset = off := Nat.eq_of_beq_eq_true ho
    obtain ⟨k1, ⟨d, k2⟩, k3⟩ := hf _ _ hfx
    obtain ⟨a1, a2⟩ := shC_split h1
    obtain ⟨b1, b2⟩ := shC_split h2
    rw [List.drop_drop] at a2 b2
    have p1 := run_part_flat k2 k1 w xs off a1
    have p2 := run_part_flat k2 k1 w ys off b1
    have p3 := k3 w _ _ a1 b1
    have ih := run_eqFields_flat hf xs ys w l (off + sx.length) r hr a2 b2
    have e : eqVs (xs.drop off) (ys.drop off) = (eqVs ((xs.drop off).take sx.length) ((ys.drop off).take sx.length) && eqVs (xs.drop (off + sx.length)) (ys.drop (off + sx.length))) := by
      rw [← List.drop_drop, ← List.drop_drop, ← eqVs_append (by rw [shC_length a1, shC_length b1]), List.take_append_drop, List.take_append_drop]
    simp only [Op.eqFields, hn, ne_eq, not_false_eq_true, if_true, Sem.run_bind]
    rw [ho, p1]
    simp only [Result.andThen_ok, p2, p3]
    rw [e]
    cases eqVs ((xs.drop off).take sx.length) ((ys.drop off).take sx.length) with
    | false => simp
    | true => simpa using ih
theorem run_eqItems_flat {dd : Nat} {e : TypeId} {sh : List Sh} (hn : P.cellsOf e = sh.length) (hd : ∃ d, flatT P d e = some sh) (hE : EqF P dd e sh) (xs ys : List Value) (w : World) : ∀ (m k : Nat),
    shC (repS sh m) (xs.drop (k * sh.length)) = true → shC (repS sh m) (ys.drop (k * sh.length)) = true → (Op.eqItems dd e (P.cellsOf e) xs.toArray ys.toArray (List.range' k m)).run P w = .ok (eqVs (xs.drop (k * sh.length)) (ys.drop (k * sh.length))) w
  | 0, k, h1, h2 => by
    have a1 := List.length_eq_zero_iff.1 (shC_length h1)
    have a2 := List.length_eq_zero_iff.1 (shC_length h2)
    simp [Op.eqItems, a1, a2, eqVs]
  | m + 1, k, h1, h2 => by
    obtain ⟨d, k2⟩ := hd
    obtain ⟨a1, a2⟩ := shC_split (a := sh) (b := repS sh m) h1
    obtain ⟨b1, b2⟩ := shC_split (a := sh) (b := repS sh m) h2
    have hk : k * sh.length + sh.length = (k + 1) * sh.length := by rw [Nat.add_mul]; omega
    rw [List.drop_drop, hk] at a2 b2
    have p1 := run_part_flat k2 hn w xs (k * sh.length) a1
    have p2 := run_part_flat k2 hn w ys (k * sh.length) b1
    have p3 := hE w _ _ a1 b1
    have ih := run_eqItems_flat hn ⟨d, k2⟩ hE xs ys w m (k + 1) a2 b2
    have e : eqVs (xs.drop (k * sh.length)) (ys.drop (k * sh.length)) = (eqVs ((xs.drop (k * sh.length)).take sh.length) ((ys.drop (k * sh.length)).take sh.length) && eqVs (xs.drop ((k + 1) * sh.length)) (ys.drop ((k + 1) * sh.length))) := by
      rw [← hk, ← List.drop_drop, ← List.drop_drop, ← eqVs_append (by rw [shC_length a1, shC_length b1]), List.take_append_drop, List.take_append_drop]
    rw [List.range'_succ]
    simp only [Op.eqItems, Sem.run_bind]
    rw [hn] at ih ⊢
    rw [p1]
    simp only [Result.andThen_ok, p2, p3]
    rw [e]
    cases eqVs ((xs.drop (k * sh.length)).take sh.length) ((ys.drop (k * sh.length)).take sh.length) with
    | false => simp
    | true => simpa using ih
theorem eqF : ∀ (d k : Nat) (t : TypeId) (sh : List Sh), flatT P d t = some sh → EqF P (k + d) t sh
  | 0, _, _, _, h => by simp [flatT] at h
  | d + 1, k, t, sh, h => by
    intro w xs ys hx hy
    have hall := h
    unfold flatT at h
    have two : ∀ {h0 : Sh}, sh = [h0] → ∃ v u, xs = [v] ∧ ys = [u] ∧ shC1 h0 v = true ∧ shC1 h0 u = true := by
      intro h0 hs
      subst hs
      have l1 := shC_length hx
      have l2 := shC_length hy
      obtain ⟨v, rfl⟩ := List.length_eq_one_iff.1 l1
      obtain ⟨u, rfl⟩ := List.length_eq_one_iff.1 l2
      exact ⟨v, u, rfl, rfl, by simpa [shC] using hx, by simpa [shC] using hy⟩
    split at h <;> try cases h
    · rename_i hu
      obtain ⟨v, u, rfl, rfl, h1, h2⟩ := two rfl
      cases v <;> simp [shC1] at h1
      cases u <;> simp [shC1] at h2
      simp [valT, aggT, hu, eqVs, eqV1, run_equalIn_bool w (k + d) t _ _ hu, ← Nat.add_assoc]
    · rename_i q hu
      obtain ⟨v, u, rfl, rfl, h1, h2⟩ := two rfl
      cases v <;> simp [shC1] at h1
      cases u <;> simp [shC1] at h2
      subst h1; subst h2
      simp [valT, aggT, hu, eqVs, eqV1, run_equalIn_int (w := w) (k + d) t _ _ _ _ hu, ← Nat.add_assoc]
    · rename_i hu
      obtain ⟨v, u, rfl, rfl, h1, h2⟩ := two rfl
      cases v <;> simp [shC1] at h1
      cases u <;> simp [shC1] at h2
      simp [valT, aggT, hu, eqVs, eqV1, run_equalIn_string (w := w) (k + d) t _ _ hu, ← Nat.add_assoc]
    · rename_i n e hu
      split at h <;> try cases h
      rename_i sh0 hf
      split at h <;> cases h
      rename_i hn
      have hn := Nat.eq_of_beq_eq_true hn
      have hA : aggT P t = true := by unfold aggT; rw [hu]
      obtain ⟨i, hi⟩ : ∃ i, P.info? e = some i := by
        cases d with
        | zero => simp [flatT] at hf
        | succ d =>
          cases hu2 : P.underlying e with
          | none => simp [flatT, hu2] at hf
          | some kd => exact info_of_underlying hu2
      rw [valT_agg hA, valT_agg hA, ← Nat.add_assoc, run_equalIn_array w (k + d) _ _ hu hi, List.range_eq_range']
      have := run_eqItems_flat hn ⟨d, hf⟩ (eqF d k e sh0 hf) xs ys w n 0 (by simpa using hx) (by simpa using hy)
      simpa using this
    · rename_i fs hu
      split at h <;> try cases h
      rename_i hst
      have hA : aggT P t = true := by unfold aggT; rw [hu]
      have hfs : P.fieldsOf t = fs := by unfold Program.fieldsOf; rw [hu]
      rw [valT_agg hA, valT_agg hA, ← Nat.add_assoc, run_equalIn_struct w (k + d) t _ _ (by rw [hfs]; exact hu) hst, hfs]
      have := run_eqFields_flat (dd := k + d) (fun u s hs => by
        split at hs <;> try cases hs
        rename_i s' hs'
        split at hs <;> cases hs
        rename_i hn
        exact ⟨Nat.eq_of_beq_eq_true hn, ⟨d, hs'⟩, eqF d k u _ hs'⟩) xs ys w fs.toList 0 sh h (by simpa using hx) (by simpa using hy)
      simpa using this
end
section
variable {X : Cx} {s : AS} {ops : Array Oper} {rest : List Oper} {Q : Exit → AS → Prop} {Qa : AS → Prop} {d : Option Nat} {ty : Nat} {pos : String} {aft : Array Edge} {op : BinOp} {T T' : TypeId} {x y : Operand} {l l' : List AV} {vs us : List Value} {r : Bool}
end
end Go.Proofs.Ytmiajenjgcdhgaa

namespace Go.Proofs.Ytmiajenjgcdhgaa
set_option linter.unusedVariables false
set_option linter.unusedSimpArgs false
open Go.RowKit
set_option maxRecDepth 100000
theorem ba_beq (a b : ByteArray) : (a == b) = (a.data.toList == b.data.toList) := by
  cases a; cases b
  show ByteArray.beq _ _ = _
  unfold ByteArray.beq
  simp
def kEq : Value → Value → Bool
  | .agg a, .agg b => eqVs a.toList b.toList
  | a, b => eqV1 a b
/-- where a key stands -/
def fnd (k : Value) : List Value → Option Nat
  | [] => none
  | x :: l => match kEq k x with
    | true => some 0
    | false => match fnd k l with
      | some n => some (n + 1)
      | none => none
/-- a key of a type -/
def isKey (P : Program) (K : TypeId) (sh : List Sh) (v : Value) : Bool := match aggT P K with
  | true => match v with
    | .agg cs => shC sh cs.toList
    | _ => false
  | false => match v with
    | .agg _ => false
    | v => shC sh [v]
theorem fnd_lt {k : Value} : ∀ {l : List Value} {n : Nat}, fnd k l = some n → n < l.length
  | [], _, h => by simp [fnd] at h
  | x :: l, n, h => by
    unfold fnd at h
    split at h
    · injection h with h; subst h; simp
    · split at h <;> cases h
      rename_i hm
      have := fnd_lt hm
      simp; omega
theorem fnd_at {k : Value} : ∀ {l : List Value} {n : Nat}, fnd k l = some n → ∃ x, l[n]? = some x ∧ kEq k x = true
  | [], _, h => by simp [fnd] at h
  | x :: l, n, h => by
    unfold fnd at h
    split at h
    · rename_i hx; injection h with h; subst h; exact ⟨x, rfl, hx⟩
    · split at h <;> cases h
      rename_i hm
      simpa using fnd_at hm
theorem eqV1_eq {h : Sh} {u v : Value} (hu : shC1 h u = true) (hv : shC1 h v = true) (he : eqV1 u v = true) : u = v := by
  cases h <;> cases u <;> simp [shC1] at hu <;> cases v <;> simp [shC1] at hv <;> simp [eqV1] at he
  · subst hu; subst hv; subst he; rfl
  · subst he; rfl
  · congr 1
    rw [ByteArray.toList_eq, ByteArray.toList_eq] at he
    exact Go.WideShapes.bytes_inj he
theorem eqVs_eq : ∀ {sh : List Sh} {us vs : List Value}, shC sh us = true → shC sh vs = true → eqVs us vs = true → us = vs
  | [], [], [], _, _, _ => rfl
  | h :: sh, u :: us, v :: vs, h1, h2, he => by
    simp only [shC, eqVs, Bool.and_eq_true] at h1 h2 he
    rw [eqV1_eq h1.1 h2.1 he.1, eqVs_eq h1.2 h2.2 he.2]
section
variable {P : Program} {K : TypeId} {sh : List Sh} {w : World}
theorem isKey_val {v : Value} (h : isKey P K sh v = true) : ∃ cs, v = valT P K cs ∧ shC sh cs = true := by
  unfold isKey at h
  split at h
  · rename_i hA
    split at h
    · rename_i cs; exact ⟨cs.toList, by rw [valT_agg hA], h⟩
    · cases h
  · rename_i hA
    split at h
    · cases h
    · exact ⟨[v], by simp [valT, hA], h⟩
theorem kEq_val {a b : Value} (ha : isKey P K sh a = true) (hb : isKey P K sh b = true) : ∃ xs ys, a = valT P K xs ∧ b = valT P K ys ∧ shC sh xs = true ∧ shC sh ys = true ∧ kEq a b = eqVs xs ys := by
  unfold isKey at ha hb
  cases hA : aggT P K with
  | true =>
    rw [hA] at ha hb
    cases a <;> simp at ha
    cases b <;> simp at hb
    rename_i x y
    exact ⟨x.toList, y.toList, by rw [valT_agg hA], by rw [valT_agg hA], ha, hb, rfl⟩
  | false =>
    rw [hA] at ha hb
    dsimp only at ha hb
    refine ⟨[a], [b], by simp [valT, hA], by simp [valT, hA], ?_, ?_, ?_⟩
    · cases a <;> first | exact ha | (simp at ha; done)
    · cases b <;> first | exact hb | (simp at hb; done)
    · have : kEq a b = eqV1 a b := by
        cases a <;> first | rfl | (simp at ha; done)
      rw [this]; simp [eqVs]
theorem kEq_eq {a b : Value} (ha : isKey P K sh a = true) (hb : isKey P K sh b = true) (h : kEq a b = true) : a = b := by
  obtain ⟨xs, ys, rfl, rfl, h1, h2, h3⟩ := kEq_val ha hb
  rw [h3] at h
  rw [eqVs_eq h1 h2 h]
theorem run_key_eq {a b : Value} (hf : flatT P 9 K = some sh) (ha : isKey P K sh a = true) (hb : isKey P K sh b = true) : (Op.equal K a b).run P w = .ok (kEq a b) w := by
  obtain ⟨xs, ys, rfl, rfl, h1, h2, h3⟩ := kEq_val ha hb
  rw [h3]
  exact eqF 9 9991 K sh hf w xs ys h1 h2
def fndE (k : Value) (es : List MapEntry) : Option (Nat × Value) := match fnd k (es.map (·.key)) with
  | some n => some (n, (es[n]?.map (·.val)).getD undef)
  | none => none
theorem run_findAsking_flat {k : Value} (hf : flatT P 9 K = some sh) (hk : isKey P K sh k = true) : ∀ (es : List MapEntry) (i : Nat), (∀ e ∈ es, isKey P K sh e.key = true) →
    (Instr.findAsking K k es i).run P w = .ok ((fndE k es).map fun x => (i + x.1, x.2)) w
  | [], i, _ => by simp [Instr.findAsking, fndE, fnd]
  | e :: es, i, h => by
    have h1 := run_key_eq (w := w) hf hk (h e (by simp))
    have ih := run_findAsking_flat hf hk es (i + 1) fun x hx => h x (by simp [hx])
    simp only [Instr.findAsking, Sem.run_bind, h1, Result.andThen_ok]
    cases hq : kEq k e.key with
    | true => simp [fndE, fnd, hq]
    | false =>
      simp only [Bool.false_eq_true, if_false, ih]
      congr 1
      simp only [fndE, List.map_cons, fnd, hq]
      cases fnd k (es.map (·.key)) with
      | none => rfl
      | some n => simp; omega
theorem findNow_flat {d : TypeDesc} {k : Value} (hs : ∀ e : Value, isKey P K sh e = true → Instr.sameNow d k e = some (kEq k e)) : ∀ (es : List MapEntry) (i : Nat), (∀ e ∈ es, isKey P K sh e.key = true) → Instr.findNow d k es i = some ((fndE k es).map fun x => (i + x.1, x.2))
  | [], i, _ => by simp [Instr.findNow, fndE, fnd]
  | e :: es, i, h => by
    have ih := findNow_flat hs es (i + 1) fun x hx => h x (by simp [hx])
    simp only [Instr.findNow, hs e.key (h e (by simp))]
    cases hq : kEq k e.key with
    | true => simp [fndE, fnd, hq]
    | false =>
      dsimp only
      rw [ih]
      congr 1
      simp only [fndE, List.map_cons, fnd, hq]
      cases fnd k (es.map (·.key)) with
      | none => rfl
      | some n => simp; omega
theorem run_findKey_flat {k : Value} {es : List MapEntry} (hf : flatT P 9 K = some sh) (hk : isKey P K sh k = true) (h : ∀ e ∈ es, isKey P K sh e.key = true) : (Instr.findKey K k es).run P w = .ok (fndE k es) w := by
  have hid : (fndE k es).map (fun x => (0 + x.1, x.2)) = fndE k es := by cases fndE k es <;> simp
  cases hu : P.underlying K with
  | none => simp [flatT, hu] at hf
  | some d =>
    cases hA : aggT P K with
    | true =>
      have hd : ∀ a b : Value, Instr.sameNow d a b = none := by
        unfold aggT at hA
        rw [hu] at hA
        intro a b
        cases d <;> simp at hA <;> rfl
      cases es with
      | nil => simp [Instr.findKey, run_underlying hu, Result.andThen, Instr.findNow, fndE, fnd]
      | cons e es =>
        have h0 : Instr.findNow d k (e :: es) 0 = none := by simp [Instr.findNow, hd]
        have := run_findAsking_flat (w := w) hf hk (e :: es) 0 h
        rw [hid] at this
        simp [Instr.findKey, run_underlying hu, Result.andThen, h0, this]
    | false =>
      have hs : ∀ e : Value, isKey P K sh e = true → Instr.sameNow d k e = some (kEq k e) := fun e he => by
        unfold isKey at hk he
        rw [hA] at hk he
        unfold flatT at hf
        rw [hu] at hf
        unfold aggT at hA
        rw [hu] at hA
        cases d <;> simp at hf hA
        all_goals
          subst hf
          cases k <;> simp [shC, shC1] at hk
          cases e <;> simp [shC, shC1] at he
        · rfl
        · subst hk; subst he; simp [Instr.sameNow, kEq, eqV1]
        · simp only [Instr.sameNow, kEq, eqV1]
          congr 1
          rename_i a b
          rw [ByteArray.toList_eq, ByteArray.toList_eq]
          exact ba_beq _ _
      have := findNow_flat hs es 0 h
      rw [hid] at this
      exact MapKept.run_findKey hu this
theorem run_checkKey_flat (em : Bool) : ∀ (d n : Nat) (t : TypeId) (sh : List Sh) (cs : List Value) (w : World), flatT P d t = some sh → shC sh cs = true → (Instr.checkKey em (n + d) t (valT P t cs)).run P w = .ok () w
  | 0, _, _, _, _, _, h, _ => by simp [flatT] at h
  | d + 1, n, t, sh, cs, w, h, hc => by
    unfold flatT at h
    have two : ∀ {h0 : Sh}, sh = [h0] → ∃ v, cs = [v] ∧ shC1 h0 v = true := by
      intro h0 hs
      subst hs
      have l1 := shC_length hc
      obtain ⟨v, rfl⟩ := List.length_eq_one_iff.1 l1
      exact ⟨v, rfl, by simpa [shC] using hc⟩
    rw [← Nat.add_assoc, Instr.checkKey]
    split at h <;> try cases h
    · rename_i hu
      obtain ⟨v, rfl, h1⟩ := two rfl
      cases v <;> simp [shC1] at h1
      simp [valT, aggT, hu, run_underlying hu, Result.andThen_ok, Sem.run_bind]
    · rename_i q hu
      obtain ⟨v, rfl, h1⟩ := two rfl
      cases v <;> simp [shC1] at h1
      simp [valT, aggT, hu, run_underlying hu, Result.andThen_ok, Sem.run_bind]
    · rename_i hu
      obtain ⟨v, rfl, h1⟩ := two rfl
      cases v <;> simp [shC1] at h1
      simp [valT, aggT, hu, run_underlying hu, Result.andThen_ok, Sem.run_bind]
    · rename_i m e hu
      split at h <;> try cases h
      rename_i sh0 hf
      split at h <;> cases h
      rename_i hn
      have hn := Nat.eq_of_beq_eq_true hn
      have hA : aggT P t = true := by unfold aggT; rw [hu]
      obtain ⟨i, hi⟩ : ∃ i, P.info? e = some i := by
        cases d with
        | zero => simp [flatT] at hf
        | succ d =>
          cases hu2 : P.underlying e with
          | none => simp [flatT, hu2] at hf
          | some kd => exact info_of_underlying hu2
      rw [valT_agg hA]
      simp only [Sem.run_bind, run_underlying hu, Result.andThen_ok]
      simp only [Std.Legacy.Range.forIn_eq_forIn_range', Std.Legacy.Range.size, Nat.sub_zero, Nat.add_one_sub_one, Nat.div_one]
      have key : ∀ (m k : Nat), shC (repS sh0 m) (cs.drop (k * sh0.length)) = true → ∀ b : PUnit, (forIn (List.range' k m) b fun i _ => (do
          let sz ← sizeOf e
          let v ← part e cs.toArray (i * sz)
          Instr.checkKey em (n + d) e v
          pure (ForInStep.yield PUnit.unit) : Sem (ForInStep PUnit))).run P w = .ok PUnit.unit w := by
        intro m
        induction m with
        | zero => intro k _ b; simp
        | succ m ih =>
          intro k hk b
          obtain ⟨a1, a2⟩ := shC_split (a := sh0) (b := repS sh0 m) hk
          rw [List.drop_drop, show k * sh0.length + sh0.length = (k + 1) * sh0.length by rw [Nat.add_mul]; omega] at a2
          have p1 := run_part_flat hf hn w cs (k * sh0.length) a1
          have p2 := run_checkKey_flat em d n e sh0 _ w hf a1
          rw [List.range'_succ]
          simp only [List.forIn_cons, Sem.run_bind, run_sizeOf w hi, Result.andThen_ok, hn, p1, p2, Sem.run_pure]
          exact ih (k + 1) a2 _
      rw [key m 0 (by simpa using hc) PUnit.unit]
      rfl
    · rename_i fs hu
      split at h <;> try cases h
      have hA : aggT P t = true := by unfold aggT; rw [hu]
      rw [valT_agg hA]
      simp only [Sem.run_bind, run_underlying hu, Result.andThen_ok]
      rw [← Array.forIn_toList]
      generalize fs.toList = L at h
      have hc0 : shC sh (cs.drop 0) = true := by simpa using hc
      clear hc two
      revert h hc0
      generalize 0 = off
      intro h hc0
      induction L generalizing off sh with
      | nil => simp
      | cons x L ih =>
        unfold flatFs at h
        split at h <;> try cases h
        rename_i sx hx hfx
        split at h <;> try cases h
        rename_i r hr
        split at hfx <;> try cases hfx
        rename_i sx' hfx'
        split at hfx <;> cases hfx
        rename_i hcl
        simp only [Bool.and_eq_true, bne_iff_ne, ne_eq] at hx
        obtain ⟨hnm, hof⟩ := hx
        have hof : x.offset = off := Nat.eq_of_beq_eq_true hof
        obtain ⟨a1, a2⟩ := shC_split hc0
        rw [List.drop_drop] at a2
        have p1 := run_part_flat hfx' (Nat.eq_of_beq_eq_true hcl) w cs off a1
        have p2 := run_checkKey_flat em d n x.type sx _ w hfx' a1
        simp only [List.forIn_cons, Sem.run_bind, hnm, ne_eq, not_false_eq_true, if_true, Result.andThen_ok, hof, p1, p2, Sem.run_pure]
        exact ih _ _ hr a2
theorem run_check {k : Value} (em : Bool) (hf : flatT P 9 K = some sh) (hk : isKey P K sh k = true) : (Instr.checkKey em 10000 K k).run P w = .ok () w := by
  obtain ⟨cs, rfl, h⟩ := isKey_val hk
  exact run_checkKey_flat em 9 9991 K sh cs w hf h
theorem sameBits1 {h : Sh} {v : Value} (n : Nat) (hs : shC1 h v = true) : Instr.sameBits n v v = true := by
  have hb : ∀ s : ByteArray, (s == s) = true := fun s => by rw [ba_beq]; simp
  cases h <;> cases v <;> simp [shC1] at hs <;> (cases n <;> simp [Instr.sameBits, hb])
theorem run_stays {k : Value} (hk : isKey P K sh k = true) : (Instr.keyThatStays k k).run P w = .ok k w := by
  have : Instr.sameBits 10000 k k = true := by
    unfold isKey at hk
    split at hk
    · split at hk
      · rename_i cs
        rw [show (10000 : Nat) = 9999 + 1 from rfl, Instr.sameBits]
        simp only [beq_self_eq_true, Bool.true_and, List.all_eq_true]
        have key : ∀ {sh : List Sh} {l : List Value}, shC sh l = true → ∀ x ∈ l.zip l, Instr.sameBits 9999 x.1 x.2 = true := by
          intro sh
          induction sh with
          | nil => intro l h x hx; cases l <;> simp [shC] at h; simp at hx
          | cons h0 sh ih =>
            intro l h x hx
            cases l with
            | nil => simp [shC] at h
            | cons v l =>
              simp only [shC, Bool.and_eq_true] at h
              simp only [List.zip_cons_cons, List.mem_cons] at hx
              rcases hx with rfl | hx
              · exact sameBits1 _ h.1
              · exact ih h.2 x hx
        exact key hk
      · cases hk
    · split at hk
      · cases hk
      · cases sh with
        | nil => simp [shC] at hk
        | cons h0 sh =>
          simp only [shC, Bool.and_eq_true] at hk
          exact sameBits1 _ hk.1
  simp [Instr.keyThatStays, this]
end
/-! a map's entries -/
section
variable {es : Array MapEntry} {clock : Nat} {ks us : List Value}
theorem MapIn.kl (h : MapIn es clock ks us) : ks.length = es.size ∧ us.length = es.size := by
  rw [← h.ky, ← h.vl]; simp
theorem MapIn.nil : MapIn #[] 0 [] [] := ⟨rfl, rfl, by simp, fun e he => by simp at he⟩
theorem MapIn.push (h : MapIn es clock ks us) (k v : Value) : MapIn (es.push ⟨k, v, clock⟩) (clock + 1) (ks ++ [k]) (us ++ [v]) := by
  refine ⟨by simp [h.ky], by simp [h.vl], ?_, fun e he => ?_⟩
  · rw [Array.toList_push, List.map_append, List.pairwise_append]
    refine ⟨h.st, by simp, fun a ha b hb => ?_⟩
    simp at hb; subst hb
    obtain ⟨e, he, rfl⟩ := List.mem_map.1 ha
    exact h.ck e he
  · simp at he
    rcases he with he | rfl
    · have := h.ck e (by simpa using he); omega
    · simp
theorem MapIn.mod (h : MapIn es clock ks us) {n : Nat} {e : MapEntry} (hn : es[n]? = some e) (v : Value) (f : MapEntry → MapEntry) (hf : f e = { e with val := v }) : MapIn (es.modify n f) clock ks (us.set n v) := by
  have hl : (es.modify n f).toList = es.toList.set n { e with val := v } := by
    rw [Array.toList_modify]
    apply List.ext_getElem?
    intro i
    rw [List.getElem?_modify, List.getElem?_set]
    by_cases hi : n = i
    · subst hi
      have : es.toList[n]? = some e := by simpa using hn
      have hlt := (List.getElem?_eq_some_iff.1 this).1
      rw [this]; simp only [if_true, if_pos hlt]; exact congrArg some hf
    · simp [hi]
  refine ⟨?_, ?_, ?_, fun x hx => ?_⟩
  · rw [hl, List.map_set, h.ky]
    have h1 : ks[n]? = some e.key := by rw [← h.ky]; simp [hn]
    apply List.ext_getElem?
    intro i
    rw [List.getElem?_set]
    split
    · rename_i hi; subst hi
      rw [if_pos (List.getElem?_eq_some_iff.1 h1).1, h1]
    · rfl
  · rw [hl, List.map_set, h.vl]
  · rw [hl, List.map_set]
    have h1 : (es.toList.map (·.born))[n]? = some e.born := by simp [hn]
    have e2 : (es.toList.map (·.born)).set n e.born = es.toList.map (·.born) := by
      apply List.ext_getElem?
      intro i
      rw [List.getElem?_set]
      split
      · rename_i hi; subst hi
        rw [if_pos (List.getElem?_eq_some_iff.1 h1).1, h1]
      · rfl
    rw [e2]; exact h.st
  · rw [hl] at hx
    rcases List.mem_or_eq_of_mem_set hx with hx | rfl
    · exact h.ck x hx
    · exact h.ck e (by simpa using Array.mem_of_getElem? hn)
theorem MapIn.erase (h : MapIn es clock ks us) (n : Nat) : MapIn (es.eraseIdxIfInBounds n) clock (ks.eraseIdx n) (us.eraseIdx n) := by
  have hsub : (es.eraseIdxIfInBounds n).toList = es.toList.eraseIdx n := by
    unfold Array.eraseIdxIfInBounds
    split
    · simp
    · rename_i hn
      rw [List.eraseIdx_of_length_le (by simpa using hn)]
  refine ⟨?_, ?_, ?_, fun x hx => ?_⟩
  · rw [hsub, ← h.ky, Go.ChangeMaps.map_eraseIdx]
  · rw [hsub, ← h.vl, Go.ChangeMaps.map_eraseIdx]
  · rw [hsub, Go.ChangeMaps.map_eraseIdx]
    exact h.st.sublist (List.eraseIdx_sublist _ _)
  · rw [hsub] at hx
    exact h.ck x ((List.eraseIdx_sublist _ _).subset hx)
/-- a stamp tells its entry -/
theorem MapIn.born (h : MapIn es clock ks us) {n : Nat} {e : MapEntry} (hn : es[n]? = some e) : es.findIdx? (fun x => (x.born : Int) == (e.born : Int)) = some n := by
  rw [Array.findIdx?_eq_some_iff_getElem]
  obtain ⟨hlt, he⟩ := Array.getElem?_eq_some_iff.1 hn
  refine ⟨hlt, by simp [he], fun j hj => ?_⟩
  have := List.pairwise_iff_getElem.1 h.st j n (by simp; omega) (by simpa using hlt) hj
  simp at this
  rw [he] at this
  simp; omega
end
end Go.Proofs.Ytmiajenjgcdhgaa

namespace Go.Proofs.Ytmiajenjgcdhgaa
set_option linter.unusedVariables false
set_option linter.unusedSimpArgs false
open Go.RowKit
set_option maxRecDepth 100000
/-- where a field of one cell lies -/
def fieldOff (P : Program) (T : TypeId) (n : Nat) : Option Nat := match P.underlying T with
  | some (.struct fs) => match fs[n]? with
    | some f => match P.underlying f.type, aggT P f.type with
      | some _, false => some f.offset
      | _, _ => none
    | none => none
  | _ => none
theorem run_fieldv {P : Program} {T : TypeId} {n off : Nat} {vs : List Value} {v : Value} (h : fieldOff P T n = some off) (hv : vs[off]? = some v) (w : World) : (Instr.field T (.agg vs.toArray) n).run P w = .ok v w := by
  unfold fieldOff at h
  split at h <;> try cases h
  rename_i fs hu
  split at h <;> try cases h
  rename_i f hf
  split at h <;> try cases h
  rename_i kd hk hA
  have hi : (isAgg f.type).run P w = .ok false w := by
    unfold aggT at hA
    rw [hk] at hA
    cases kd <;> simp at hA <;> simp [isAgg, Sem.run_bind, run_underlying hk, Result.andThen_ok]
  simp [Instr.field, Sem.run_bind, run_underlying hu, Result.andThen_ok, hf, part, hi, asAgg, hv]
theorem pq_fieldv {X : Cx} {s : AS} {o : Oper} {T : TypeId} {n off : Nat} {x : Operand} {l : List AV} {av : AV} (ho : o.op = .field T x n) (hx : aev s x = .ag l) (hf : fieldOff Try.prog T n = some off) (hl : l[off]? = some av) : Pq Try.prog X s o av := .of_run fun X φ κ f a w hs => by
  have h1 := hs.evs hx
  generalize hv : a.eval x = v at h1
  cases h1 with
  | ag hc _ =>
    obtain ⟨u, hu, hr⟩ := hc.at_ hl
    refine ⟨u, hr, fun w' _ => ?_⟩
    simp only [execOp, ho, hv, Sem.run_bind, run_fieldv hf hu w']
    simp [go_sem]
theorem AP.FV {X : Cx} {s : AS} {ops : Array Oper} {rest : List Oper} {Q : Exit → AS → Prop} {T : TypeId} {n off z : Nat} {x : Operand} {l : List AV} {av : AV} {d : Option Nat} {ty : Nat} {pos : String} {aft : Array Edge} {i : TI} {fl : List (Nat × Nat)} (K : AP Try.prog X ops Q rest (s.put d av)) (hx : aev s x = .ag l := by exact rfl) (hT : tt[T]? = some i := by exact rfl) (hk : i.kd = .st fl := by exact rfl) (hn : fl[n]? = some (off, z) := by exact rfl) (hf : fieldOff Try.prog T n = some off := by kernel_rfl) (hl : l[off]? = some av := by exact rfl) : AP Try.prog X ops Q (⟨d, .field T x n, ty, pos, aft, none⟩ :: rest) s :=
  AP.pure rfl (pq_fieldv rfl hx hf hl) K
end Go.Proofs.Ytmiajenjgcdhgaa

namespace Go.Proofs.Ytmiajenjgcdhgaa
set_option linter.unusedVariables false
set_option linter.unusedSimpArgs false
open Go.RowKit
set_option maxRecDepth 100000
theorem RC.app {w : World} {φ : Fi} {κ : Ka} {R : Nat → Prop} : ∀ {l m : List AV} {us vs : List Value}, RC w φ κ R l us Ct.z → RC w φ κ R m vs Ct.z → RC w φ κ R (l ++ m) (us ++ vs) Ct.z
  | [], m, us, vs, h, k => by cases h; exact k
  | a :: l, m, us, vs, h, k => by
    cases h with
    | cons h1 h2 h3 =>
      obtain ⟨rfl, rfl⟩ := Ct.split h3
      exact .cons (S := Ct.z) (T := Ct.z) h1 (RC.app h2 k) fun _ => rfl
theorem RE.flat {w : World} {φ : Fi} {κ : Ka} {R : Nat → Prop} {k : Nat} : ∀ {s : List (List AV)} {us : List Value}, RE w φ κ R k s us Ct.z → RC w φ κ R s.flatten us Ct.z ∧ (∀ u ∈ us, u.oneCell' = true) ∧ ∀ x ∈ s.flatten, x.leaf = true
  | [], us, h => by cases h; exact ⟨.nil, by simp, by simp⟩
  | c :: s, us, h => by
    cases h with
    | cons h1 h2 h3 h4 h5 =>
      obtain ⟨rfl, rfl⟩ := Ct.split h5
      obtain ⟨a, b, d⟩ := RE.flat h4
      refine ⟨by rw [List.flatten_cons]; exact RC.app h1 a, fun u hu => (List.mem_append.1 hu).elim (h3.1 u) (b u), fun x hx => ?_⟩
      rw [List.flatten_cons] at hx
      exact (List.mem_append.1 hx).elim (h3.2 x) (d x)
section
variable {X : Cx} {s : AS} {o : Oper} {ops : Array Oper} {rest : List Oper} {Q : Exit → AS → Prop} {Qa : AS → Prop}
end
section
variable {X : Cx} {s : AS} {o : Oper} {ops : Array Oper} {rest : List Oper} {Q : Exit → AS → Prop} {av : AV}
/-- a store at a number that is reckoned -/
theorem AP.TB {T T' : TypeId} {x y : Operand} {b u off : Nat} {l : List AV} {i : TI} (K : AP Try.prog X ops Q rest (AS.put ⟨s.t, s.b.set b ⟨u, .c T' (spl l off av.cells)⟩⟩ o.dst (.tu []))) (hg : o.guard = none := by exact rfl) (ho : o.op = .store T x y := by exact rfl) (hx : aev s x = .bp b u off := by exact rfl) (hs : s.b[b]? = some ⟨u, .c T' l⟩ := by exact rfl) (hy : aev s y = av := by exact rfl) (hk : av.known = true := by exact rfl)
    (hT : tt[T]? = some i := by exact rfl) (hn : av.cells.length = i.size := by exact rfl) (hl : off + i.size ≤ l.length := by first | omega | (simp; omega)) : AP Try.prog X ops Q (o :: rest) s :=
  ap_store hg ho hx hs hy hk hT hn (by rw [Nat.ble_eq]; exact hl) K
/-- a load there -/
theorem AP.LB {T T' : TypeId} {x : Operand} {b u off : Nat} {l : List AV} {i : TI} {d : Option Nat} {ty : Nat} {pos : String} {aft : Array Edge} (K : AP Try.prog X ops Q rest (s.put d av)) (hx : aev s x = .bp b u off := by exact rfl) (hs : s.b[b]? = some ⟨u, .c T' l⟩ := by exact rfl) (hT : tt[T]? = some i := by exact rfl) (hk : rowK i.kd = false := by exact rfl) (hl : l[off]? = some av := by assumption) : AP Try.prog X ops Q (⟨d, .load T x, ty, pos, aft, none⟩ :: rest) s :=
  AP.pure rfl (pq_load1 rfl hx hs hT hk hl) K
end
end Go.Proofs.Ytmiajenjgcdhgaa

namespace Go.Proofs.Ytmiajenjgcdhgaa
set_option linter.unusedVariables false
set_option linter.unusedSimpArgs false
open Go.RowKit
set_option maxRecDepth 100000
theorem run_boundsA {n l h : Nat} {lo hi : Option Value} (hlo : lo = none ∧ l = 0 ∨ ∃ k, lo = some (.int k l)) (hhi : hi = none ∧ h = n ∨ ∃ k, hi = some (.int k h)) (h1 : l ≤ h) (h2 : h ≤ n) (w : World) :
    (Instr.sliceBounds false n n lo hi none).run Try.prog w = .ok (l, h, n) w := by
  have hb : ∀ (k : IntKind) (x y : Nat) (code : BoundsCode), x ≤ y → (Instr.sliceBound (.int k x) y code).run Try.prog w = .ok x w := by
    intro k x y code hxy
    simp [Instr.sliceBound, asIntOf, hxy, go_sem]
  rcases hhi with ⟨rfl, rfl⟩ | ⟨kh, rfl⟩ <;> rcases hlo with ⟨rfl, rfl⟩ | ⟨kl, rfl⟩
  all_goals (unfold Instr.sliceBounds; simp only [Sem.run_bind, hb _ _ _ _ h1, hb _ _ _ _ h2, Result.andThen_ok, Sem.run_pure]; first | rfl | skip)
section
variable {X : Cx} {φ φ' : Fi} {κ κ' : Ka} {f : Nat → Ct} {L L' : Ct} {s s' : AS} {a : Act} {w w' : World} {o : Oper} {ops : Array Oper} {rest : List Oper} {Q : Exit → AS → Prop} {av : AV} {d : Option Nat} {ty : Nat} {pos : String} {aft : Array Edge}
theorem run_slice_arr {T e N l h g off : Nat} {i ie : TI} {lo hi : Option Value} (hT : tt[T]? = some i) (hk : i.kd = .ar N e) (he : tt[e]? = some ie) (hb : ∀ w, (Instr.sliceBounds false N N lo hi none).run Try.prog w = .ok (l, h, N) w) (hlN : l = 0 ∨ l < N) (w : World) :
    (Instr.sliceAt T (.pointer (some ⟨g, off, none⟩)) lo hi none).run Try.prog w = .ok (.slice (some ⟨g, off + l * ie.size, none⟩) (h - l) (N - l)) w := by
  have hu := ty_ar hT hk
  have hadd : (if N = l then (⟨g, off, none⟩ : Addr) else (⟨g, off, none⟩ : Addr).add (l * ie.size)) = ⟨g, off + l * ie.size, none⟩ := by
    rcases hlN with rfl | hlN
    · split <;> simp [Addr.add]
    · rw [if_neg (by omega)]
      simp only [Addr.add]; split <;> simp_all
  simp only [Instr.sliceAt, Sem.run_bind, run_underlying hu, Result.andThen_ok, Instr.sureAddr, Sem.run_pure, hb, ty_size he, hadd]
theorem pq_slice_arr {T e N l h b u off : Nat} {x : Operand} {lo hi : Option Operand} {i ie : TI} (ho : o.op = .slice T x lo hi none) (hx : aev s x = .bp b u off) (hT : tt[T]? = some i) (hk : i.kd = .ar N e) (he : tt[e]? = some ie)
    (hlo : Bd s lo 0 l) (hhi : Bd s hi N h) (h1 : l ≤ h) (h2 : h ≤ N) (hN : N ≤ 1000000) (hlN : l = 0 ∨ l < N) : Pq Try.prog X s o (.sb b u ie.size (off + l * ie.size) (h - l) (N - l)) := .of_run fun X φ κ f a w hs => by
  have hv := hs.evs hx
  generalize hp : a.eval x = v at hv
  cases hv with
  | @bp _ _ _ g hg =>
    have hb := fun w => run_boundsA (n := N) (l := l) (h := h) (lo := lo.map a.eval) (hi := hi.map a.eval) (by simpa using Bd.lo (h0 := hs) hlo) (Bd.lo (h0 := hs) hhi) h1 h2 w
    refine ⟨_, .sb hg (by omega) (by unfold maxLen; omega), fun w' _ => ?_⟩
    have := run_slice_arr (g := g) (off := off) hT hk he hb hlN w'
    simp only [execOp, ho, hp, Option.map_none, Sem.run_bind, this]; rfl
theorem AP.SV {T e N : Nat} {x : Operand} {lo hi : Option Operand} {l h : Int} {b u off : Nat} {i ie : TI} (K : AP Try.prog X ops Q rest (s.put d (.sb b u ie.size (off + l.toNat * ie.size) (h.toNat - l.toNat) (N - l.toNat)))) (hx : aev s x = .bp b u off := by exact rfl) (hT : tt[T]? = some i := by exact rfl) (hk : i.kd = .ar N e := by exact rfl) (he : tt[e]? = some ie := by exact rfl)
    (hl : bdv s 0 lo = some l := by exact rfl) (hh : bdv s N hi = some h := by exact rfl) (hp : 0 ≤ l ∧ l ≤ h ∧ h ≤ N ∧ l < N ∧ N ≤ 1000000 := by ((repeat' (with_reducible apply And.intro)) <;> (first | exact True.intro | exact rfl | omega | decide | (simp; omega) | (simp; done) | assumption | exact .inl rfl | (refine .inr ?_; simp; try omega)))) : AP Try.prog X ops Q (⟨d, .slice T x lo hi none, ty, pos, aft, none⟩ :: rest) s :=
  AP.pure rfl (pq_slice_arr rfl hx hT hk he (bd_of (d := 0) hl hp.1) (bd_of hh (by omega)) (by omega) (by omega) hp.2.2.2.2 (.inr (by omega))) K
/-- a variable of one's own becomes what may be read -/
theorem SatW.frzC (h : SatW X φ κ f L s a w) {j u : Nat} {T : TypeId} {l : List AV} (hj : s.b[j]? = some ⟨u, .c T l⟩) :
    ∃ X' g vs, X.le X' ∧ φ j u = some g ∧ w.heap[g]? = some (.cells vs.toArray T (0, 0)) ∧ X'.R g ∧ RC w φ κ X'.R l vs Ct.z ∧ (∀ v ∈ vs, v.oneCell' = true) ∧ SatW X' φ κ (updF f j Ct.z) L ⟨s.t, s.b.set j ⟨u, .x⟩⟩ a w := by
  obtain ⟨hrs, ht⟩ := h.take hj .x fun _ _ => .x
  generalize hF : f j = F at hrs ht
  cases hrs with
  | @c _ _ vs g _ hφ hh hc h1 hS =>
    have hgr : ∀ x, F x ≠ 0 → x < w.heap.size ∧ (X.S0 x ≠ 0 ∨ X.w0.heap.size ≤ x) ∧ sumF (updF f j Ct.z) (s.b.set j ⟨u, .x⟩).length x + L x = 0 := fun x hx => by
      have h1 := ht.own x (by dsimp only; omega)
      have h2 := ht.one x
      dsimp only at h2
      exact ⟨h1.1, h1.2, by omega⟩
    refine ⟨X.gr (fun x => X.R x ∨ F x ≠ 0), g, vs, Cx.le_gr (fun x hx => .inl hx) (fun x hx => hx.imp id fun h0 => (hgr x h0).2.1), hφ, hh, .inr (by rw [hS]; simp), RC.hist (fun _ _ _ h => h) (fun _ _ _ h => h) (fun _ h => .inl h) hc, h1, ?_⟩
    refine SatW.grow (ht.drop fun x => by (try dsimp only); omega) (fun x hx => .inl hx) (fun x hx => ?_) (fun x hx => hx.imp id fun h0 => (hgr x h0).2.1)
    rcases hx with hx | hx
    · have := ht.rd x hx; dsimp only at this ⊢; exact ⟨this.1, by omega⟩
    · exact ⟨(hgr x hx).1, (hgr x hx).2.2⟩
theorem RC.ones {R : Nat → Prop} : ∀ {l : List AV} {vs : List Value}, RC w φ κ R l vs Ct.z → (∀ v ∈ vs, v.oneCell' = true) → (∀ x ∈ l, x.leaf = true) → RE w φ κ R 1 (l.map fun a => [a]) vs Ct.z
  | _, _, .nil, _, _ => .nil
  | _, _, .cons (a := a) (v := v) h1 h2 h3, ho, hl => by
    obtain ⟨rfl, rfl⟩ := Ct.split h3
    exact .cons (S := Ct.z) (T := Ct.z) (us := [v]) (.cons (S := Ct.z) (T := Ct.z) h1 .nil fun _ => rfl) rfl ⟨fun u hu => ho u (by simp at hu; simp [hu]), fun x hx => hl x (by simp at hx; simp [hx])⟩ (RC.ones h2 (fun v hv => ho v (by simp [hv])) fun x hx => hl x (by simp [hx])) fun _ => rfl
/-- a whole array, as a slice that may be read; the variable is of no more use -/
theorem AP.SF {T T' e N : Nat} {x : Operand} {b u d' : Nat} {i ie : TI} {l : List AV} (K : AP Try.prog X ops Q rest ⟨s.t.set d' (.sl none 1 (l.map fun a => [a])), s.b.set b ⟨u, .x⟩⟩) (hx : aev s x = .bp b u 0 := by exact rfl) (hs : s.b[b]? = some ⟨u, .c T' l⟩ := by exact rfl) (hT : tt[T]? = some i := by exact rfl) (hk : i.kd = .ar N e := by exact rfl) (he : tt[e]? = some ie := by exact rfl)
    (hsz : Nat.beq ie.size 1 = true := by exact rfl) (hl : Nat.beq l.length N = true := by first | exact rfl | (rw [Nat.beq_eq_true_eq]; simp; done) | (rw [Nat.beq_eq_true_eq]; simp; omega)) (hN : Nat.ble N 1000000 = true := by exact rfl) (hlf : ∀ x ∈ l, x.leaf = true := by first | exact List.all_eq_true.1 rfl | (intro x hx; simp at hx; obtain ⟨y, _, rfl⟩ := hx; rfl)) : AP Try.prog X ops Q (⟨some d', .slice T x none none none, ty, pos, aft, none⟩ :: rest) s :=
  .runG rfl (fun X φ κ f a w h => by
    have hsz := Nat.eq_of_beq_eq_true hsz
    have hl := Nat.eq_of_beq_eq_true hl
    have hN := Nat.le_of_ble_eq_true hN
    obtain ⟨X1, g, vs, hX1, hφ, hh, hRg, hc, h1, h2⟩ := h.frzC hs
    have hv := h.evs hx
    generalize hp : a.eval x = v at hv
    cases hv with
    | bp hg =>
      rw [hφ] at hg; injection hg with hg; subst hg
      have hb := fun w => run_boundsA (n := N) (l := 0) (h := N) (lo := none) (hi := none) (.inl ⟨rfl, rfl⟩) (.inl ⟨rfl, rfl⟩) (Nat.zero_le _) (Nat.le_refl _) w
      have hrun := run_slice_arr (g := g) (off := 0) hT hk he hb (.inl rfl) w
      have hlen : (l.map fun a => [a]).length = N := by simp [hl]
      have hrv : RV w φ κ X1.R (.sl none 1 (l.map fun a => [a])) (.slice (some ⟨g, 0, none⟩) (l.map fun a => [a]).length N) Ct.z := .ro (RC.ones hc h1 hlf) (by omega) (by unfold maxLen; omega) (fun _ => hRg) fun j u hj => by
        rw [cell_of_row w g (0 + j) vs.toArray T' (0, 0) hh]; simpa using hj
      rw [hlen] at hrv
      refine ⟨X1, _, w, φ, κ, _, hX1, ?_, h2.puts (some d') hrv⟩
      simp only [execOp, hp, Option.map_none, Sem.run_bind, hrun]
      simp [go_sem]) K
/-- a variable's cells become others -/
theorem SatW.rebox (h : SatW X φ κ f Ct.z s a w) {b u g : Nat} {T' : TypeId} {l l' : List AV} {vs vs' : List Value} (hs : s.b[b]? = some ⟨u, .c T' l⟩) (hφ : φ b u = some g) (hh : w.heap[g]? = some (.cells vs.toArray T' (0, 0))) (hrc : RC w φ κ X.R l' vs' Ct.z) (h1 : ∀ v ∈ vs', v.oneCell' = true) :
    ∃ f', SatW X φ κ f' Ct.z ⟨s.t, s.b.set b ⟨u, .c T' l'⟩⟩ a (w.setRow g vs'.toArray) := by
  have hS := h.sl b _ hs
  have hb : b < s.b.length := (List.getElem?_eq_some_iff.1 hs).1
  have hf : ∀ x, f b x = if x = g then 1 else 0 := by
    generalize f b = F at hS
    cases hS with
    | c hφ' _ _ _ hSx => rw [hφ] at hφ'; injection hφ' with e; subst e; exact hSx
  have hgl : g < w.heap.size := (Array.getElem?_eq_some_iff.1 hh).1
  refine ⟨updF f b (fun x => if x = g then 1 else 0), ?_⟩
  refine h.turn (w' := w.setRow g vs'.toArray) hs (fun _ _ _ h => h) (fun _ _ _ h => h) (by simp [World.setRow]) rfl rfl rfl ?_ ?_ (g := fun x => if x = g then 1 else 0) (L' := Ct.z) ?_ ?_ (Nat.le_refl _) (fun _ _ _ h => h) (fun _ _ _ h => h)
  · intro x hx h0
    have := hf x
    have hne : x ≠ g := by rintro rfl; simp at this; omega
    exact setRow_other w g x _ hne
  · have hR : ∀ x, X.R x → (w.setRow g vs'.toArray).heap[x]? = w.heap[x]? := fun x hx => by
      have h3 := h.not_rd hx
      have h4 := sumF_le f x _ b hb
      have h5 := hf x
      have hne : x ≠ g := by rintro rfl; simp at h5; omega
      exact setRow_other w g x _ hne
    exact .c hφ (setRow_heap w g _ vs'.toArray T' _ hh) (RC.keep hR hrc fun x hx => absurd rfl hx) h1 fun _ => rfl
  · intro x hx; have := hf x; simp only [Ct.z]; omega
  · intro x hx; simp only [Ct.z]; split
    · omega
    · simp
/-- cells over others -/
def cpy {α : Type} (l : List α) (o : Nat) (r : List α) : List α := l.take o ++ r ++ l.drop (o + r.length)
theorem RC.take_ {R : Nat → Prop} {l : List AV} {us : List Value} (h : RC w φ κ R l us Ct.z) (m : Nat) : RC w φ κ R (l.take m) (us.take m) Ct.z := by simpa using h.drop_ 0 m
theorem RC.dropA {R : Nat → Prop} {l : List AV} {us : List Value} (h : RC w φ κ R l us Ct.z) (n : Nat) : RC w φ κ R (l.drop n) (us.drop n) Ct.z := by
  have := h.drop_ n l.length
  rwa [List.take_of_length_le (by simp), List.take_of_length_le (by simp [h.length])] at this
theorem RC.cpy {R : Nat → Prop} {l r : List AV} {us vs : List Value} (h : RC w φ κ R l us Ct.z) (k : RC w φ κ R r vs Ct.z) (o : Nat) : RC w φ κ R (cpy l o r) (cpy us o vs) Ct.z := by
  unfold Go.Proofs.Ytmiajenjgcdhgaa.cpy
  rw [k.length]
  exact ((h.take_ o).append k (fun _ => rfl)).append (h.dropA _) (fun _ => rfl)
theorem cpy_one {us vs : List Value} (o : Nat) (h : ∀ v ∈ us, v.oneCell' = true) (k : ∀ v ∈ vs, v.oneCell' = true) : ∀ v ∈ cpy us o vs, v.oneCell' = true := fun v hv => by
  unfold cpy at hv
  rcases List.mem_append.1 hv with hv | hv
  · rcases List.mem_append.1 hv with hv | hv
    · exact h v (List.mem_of_mem_take hv)
    · exact k v hv
  · exact h v (List.mem_of_mem_drop hv)
/-- copy into a variable's cells -/
theorem ap_copyv {T T1 T' e : Nat} {x y : Operand} {b u off n c : Nat} {l : List AV} {r : List AV} {i ie : TI} {sl : Nat} (hg : o.guard = none) (ho : o.op = .call { callee := .builtin .copy, args := #[x, y], argTypes := #[T, T1] }) (hx : aev s x = .sb b u 1 off n c) (hs : s.b[b]? = some ⟨u, .c T' l⟩) (hT : tt[T]? = some i) (hk : i.kd = .sl e) (he : tt[e]? = some ie) (hsz : ie.size = 1)
    (hfit : off + n ≤ l.length)
    (hsrc : ∀ X φ κ f a w, SatW X φ κ f Ct.z s a w → ∃ A cs sc, a.eval y = .slice (some A) sl sc ∧ RC w φ κ X.R r cs Ct.z ∧ cs.length = min sl n ∧ (∀ v ∈ cs, v.oneCell' = true) ∧ ∀ j v, cs[j]? = some v → w.cell? (A.add j) = some v)
    (K : AP Try.prog X ops Q rest (AS.put ⟨s.t, s.b.set b ⟨u, .c T' (cpy l off r)⟩⟩ o.dst (.sc (.int .i64 ((min sl n : Nat) : Int))))) : AP Try.prog X ops Q (o :: rest) s :=
  .run hg (fun X φ κ f a w h => by
    obtain ⟨A, cs, sc, hy, hrc, hr, h1, hcell⟩ := hsrc X φ κ f a w h
    have hcl := hrc.length
    have hv := h.evs hx
    have hS := h.sl b _ hs
    generalize hp : a.eval x = v at hv
    cases hv with
    | @sb _ _ _ _ _ _ g hφ hnc _ =>
      obtain ⟨vs, hh, hvc, hv1⟩ : ∃ vs : List Value, w.heap[g]? = some (.cells vs.toArray T' (0, 0)) ∧ RC w φ κ X.R l vs Ct.z ∧ ∀ v ∈ vs, v.oneCell' = true := by
        generalize f b = F at hS
        cases hS with
        | c hφ' hh hc ho _ => rw [hφ] at hφ'; injection hφ' with e; subst e; exact ⟨_, hh, hc, ho⟩
      have hvl := hvc.length
      obtain ⟨dd, j, hd, hj, _, hjs, _⟩ := TI.parts (ty he)
      have hrun := run_copy_row (P := Try.prog) w T T1 o.type e g off n c A sl sc vs.toArray T' cs (ty_sl hT hk) (by rw [hj]; simp [hjs, hsz]) hh hr hcell (by simp; omega) h1
      obtain ⟨f', h2⟩ := h.rebox hs hφ hh (hvc.cpy hrc off) (cpy_one off hv1 h1)
      have e1 : (vs.toArray.toList.take off ++ cs ++ vs.toArray.toList.drop (off + cs.length)).toArray = (cpy vs off cs).toArray := by simp [cpy]
      rw [e1] at hrun
      refine ⟨_, _, φ, κ, f', ?_, h2.puts o.dst (av := .sc (.int .i64 ((min sl n : Nat) : Int))) (v := goInt cs.length) (by rw [hr]; exact .sc rfl)⟩
      have hm : (#[x, y] : Array Operand).map a.eval = #[.slice (some ⟨g, off, none⟩) n c, .slice (some A) sl sc] := by simp [hp, hy]
      simp only [execOp, ho, resolve, Sem.run_bind, Sem.run_pure, Result.andThen_ok, invoke, hm]
      show Sem.run Try.prog ((do pure (.value (← Builtin.copy_ #[T, T1] o.type #[.slice (some ⟨g, off, none⟩) n c, .slice (some A) sl sc])) : Sem Next)) w = _
      simp only [Sem.run_bind, hrun, Result.andThen_ok, Sem.run_pure]) K
theorem RE.flat1 {R : Nat → Prop} : ∀ {r : List (List AV)} {us : List Value}, RE w φ κ R 1 r us Ct.z → RC w φ κ R r.flatten us Ct.z ∧ (∀ v ∈ us, v.oneCell' = true) ∧ us.length = r.length
  | _, _, .nil => ⟨.nil, (fun _ h => by cases h), rfl⟩
  | _, _, .cons h1 h2 h3 h4 h5 => by
    obtain ⟨rfl, rfl⟩ := Ct.split h5
    obtain ⟨a, b, c⟩ := RE.flat1 h4
    exact ⟨by rw [List.flatten_cons]; exact h1.append a fun _ => rfl, fun v hv => (List.mem_append.1 hv).elim (h3.1 v) (b v), by simp [h2, c]; omega⟩
theorem RE.take_ {R : Nat → Prop} : ∀ {r : List (List AV)} {us : List Value} (m : Nat), RE w φ κ R 1 r us Ct.z → RE w φ κ R 1 (r.take m) (us.take m) Ct.z
  | _, _, 0, _ => by simpa using .nil
  | _, _, m + 1, .nil => .nil
  | _, _, m + 1, .cons (us := us) (vs := vs) h1 h2 h3 h4 h5 => by
    obtain ⟨rfl, rfl⟩ := Ct.split h5
    have e : (us ++ vs).take (m + 1) = us ++ vs.take m := by
      rw [List.take_append, h2, List.take_of_length_le (by omega)]; rfl
    rw [e]
    exact .cons (S := Ct.z) (T := Ct.z) h1 h2 h3 (RE.take_ m h4) fun _ => rfl
/-- from a slice that may be read -/
theorem AP.CV {T T1 T' e : Nat} {x y : Operand} {b u off n c : Nat} {l : List AV} {rows : List (List AV)} {i ie : TI} (K : AP Try.prog X ops Q rest (AS.put ⟨s.t, s.b.set b ⟨u, .c T' (cpy l off (rows.take (min rows.length n)).flatten)⟩⟩ o.dst (.sc (.int .i64 ((min rows.length n : Nat) : Int))))) (hg : o.guard = none := by exact rfl) (ho : o.op = .call { callee := .builtin .copy, args := #[x, y], argTypes := #[T, T1] } := by exact rfl)
    (hx : aev s x = .sb b u 1 off n c := by exact rfl) (hy : aev s y = .sl none 1 rows := by exact rfl) (hs : s.b[b]? = some ⟨u, .c T' l⟩ := by exact rfl) (hT : tt[T]? = some i := by exact rfl) (hk : i.kd = .sl e := by exact rfl) (he : tt[e]? = some ie := by exact rfl) (hsz : Nat.beq ie.size 1 = true := by exact rfl)
    (hp : off + n ≤ l.length ∧ 0 < rows.length := by ((repeat' (with_reducible apply And.intro)) <;> (first | exact True.intro | exact rfl | omega | decide | (simp; omega) | (simp; done) | assumption | exact .inl rfl | (refine .inr ?_; simp; try omega)))) : AP Try.prog X ops Q (o :: rest) s :=
  ap_copyv hg ho hx hs hT hk he (Nat.eq_of_beq_eq_true hsz) hp.1 (fun X φ κ f a w h => by
    have h1 := h.evs hy
    have hp := hp
    generalize hp' : a.eval y = p at h1
    cases h1 with
    | ni => simp at hp
    | ne => simp at hp
    | @ro _ _ g o' c' us hre hle hm hR hc =>
      obtain ⟨a1, a2, a3⟩ := RE.flat1 (RE.take_ (min rows.length n) hre)
      refine ⟨_, _, c', rfl, a1, by rw [a3]; simp, a2, fun j v hj => ?_⟩
      rw [List.getElem?_take] at hj
      split at hj
      · have := hc j v hj
        rwa [show (⟨g, o', none⟩ : Addr).add j = ⟨g, o' + j, none⟩ by unfold Addr.add; split <;> simp_all]
      · cases hj) K
/-- from cells of the same variable -/
theorem AP.CO {T T1 T' e : Nat} {x y : Operand} {b u off n c off' n' c' : Nat} {l : List AV} {i ie : TI} (K : AP Try.prog X ops Q rest (AS.put ⟨s.t, s.b.set b ⟨u, .c T' (cpy l off ((l.drop off').take (min n' n)))⟩⟩ o.dst (.sc (.int .i64 ((min n' n : Nat) : Int))))) (hg : o.guard = none := by exact rfl) (ho : o.op = .call { callee := .builtin .copy, args := #[x, y], argTypes := #[T, T1] } := by exact rfl)
    (hx : aev s x = .sb b u 1 off n c := by exact rfl) (hy : aev s y = .sb b u 1 off' n' c' := by exact rfl) (hs : s.b[b]? = some ⟨u, .c T' l⟩ := by exact rfl) (hT : tt[T]? = some i := by exact rfl) (hk : i.kd = .sl e := by exact rfl) (he : tt[e]? = some ie := by exact rfl) (hsz : Nat.beq ie.size 1 = true := by exact rfl)
    (hp : off + n ≤ l.length ∧ off' + n' ≤ l.length := by ((repeat' (with_reducible apply And.intro)) <;> (first | exact True.intro | exact rfl | omega | decide | (simp; omega) | (simp; done) | assumption | exact .inl rfl | (refine .inr ?_; simp; try omega)))) : AP Try.prog X ops Q (o :: rest) s :=
  ap_copyv (sl := n') hg ho hx hs hT hk he (Nat.eq_of_beq_eq_true hsz) hp.1 (fun X φ κ f a w h => by
    have hv := h.evs hy
    have hS := h.sl b _ hs
    generalize hp' : a.eval y = p at hv
    cases hv with
    | @sb _ _ _ _ _ _ g hφ hnc _ =>
      obtain ⟨vs, hh, hvc, hv1⟩ : ∃ vs : List Value, w.heap[g]? = some (.cells vs.toArray T' (0, 0)) ∧ RC w φ κ X.R l vs Ct.z ∧ ∀ v ∈ vs, v.oneCell' = true := by
        generalize f b = F at hS
        cases hS with
        | c hφ' hh hc ho _ => rw [hφ] at hφ'; injection hφ' with e; subst e; exact ⟨_, hh, hc, ho⟩
      have hvl := hvc.length
      refine ⟨_, (vs.drop off').take (min n' n), c', rfl, hvc.drop_ off' _, by simp; omega, fun v hv => hv1 v (List.mem_of_mem_drop (List.mem_of_mem_take hv)), fun j v hj => ?_⟩
      rw [List.getElem?_take] at hj
      split at hj
      · rw [List.getElem?_drop] at hj
        rw [show (⟨g, off', none⟩ : Addr).add j = ⟨g, off' + j, none⟩ by unfold Addr.add; split <;> simp_all]
        rw [cell_of_row w g (off' + j) vs.toArray T' (0, 0) hh]; simpa using hj
      · cases hj) K
/-- a part of an array's value -/
theorem run_indexv {T N e : Nat} {i : TI} {k : IntKind} {j : Int} {vs : List Value} {v : Value} (hT : tt[T]? = some i) (hk : i.kd = .ar N e) {ie : TI} (he : tt[e]? = some ie) (hsz : ie.size = 1) (hrow : rowK ie.kd = false) (h0 : 0 ≤ j) (hj : j < N) (hv : vs[j.toNat]? = some v) (w : World) : (Instr.index T (.agg vs.toArray) (.int k j)).run Try.prog w = .ok v w := by
  obtain ⟨d, hd, hr, _⟩ := ty_flat he hrow
  have hagg : (isAgg e).run Try.prog w = .ok false w := by
    unfold isAgg
    rw [Sem.run_bind, run_underlying hd w]
    cases d <;> first | rfl | (simp [TypeDesc.isRow] at hr; done)
  have hsize := ty_size he w
  simp [Instr.index, asIntOf, Sem.run_bind, run_underlying (ty_ar hT hk), Result.andThen_ok, h0, hj, hsize, hsz, part, hagg, asAgg, hv, go_sem]
theorem AP.IX {T N e : Nat} {x y : Operand} {l : List AV} {k : IntKind} {j : Int} {i ie : TI} (K : AP Try.prog X ops Q rest (s.put d av)) (hx : aev s x = .ag l := by exact rfl) (hy : aev s y = .sc (.int k j) := by exact rfl) (hT : tt[T]? = some i := by exact rfl) (hk : i.kd = .ar N e := by exact rfl) (he : tt[e]? = some ie := by exact rfl) (hsz : Nat.beq ie.size 1 = true := by exact rfl) (hrow : rowK ie.kd = false := by exact rfl)
    (hl : l[j.toNat]? = some av := by first | assumption | exact mapAt (by (first | omega | (simp; omega) | (simp; done) | assumption)) | exact rfl) (hp : 0 ≤ j ∧ j < N := by ((repeat' (with_reducible apply And.intro)) <;> (first | exact True.intro | exact rfl | omega | decide | (simp; omega) | (simp; done) | assumption | exact .inl rfl | (refine .inr ?_; simp; try omega)))) : AP Try.prog X ops Q (⟨d, .index T x y, ty, pos, aft, none⟩ :: rest) s :=
  AP.pure rfl (.of_run fun X φ κ f a w h => by
    have h1 := h.evs hx
    have h2 := h.evc hy
    generalize hp' : a.eval x = p at h1
    cases h1 with
    | ag hc _ =>
      obtain ⟨v, hv, hr⟩ := hc.at_ hl
      refine ⟨v, hr, fun w' _ => ?_⟩
      have := run_indexv hT hk he (Nat.eq_of_beq_eq_true hsz) hrow hp.1 hp.2 hv (k := k) w'
      simp only [execOp, hp', h2, Sem.run_bind, this]
      simp [go_sem]) K
end
/-! in drawn regions -/
section
variable {s : AS} {ops : Array Oper} {all : List Oper} {K : AS → Prop} {acc : List Fp} {l : List Oper} {av : AV} {op : Op} {ty : Nat} {pos : String} {aft : Array Edge} {g : Option (Nat × Bool)} {d : Nat} {T : List Nat} {F : List Nat} {b2 : List Sl} {r : Bool}
theorem DW.RX (hk : DW Try.prog ops all K (⟨T, some d, F, false⟩ :: acc) l ⟨s.t.set d av, s.b⟩) (hg : gdS ops s g = some r := by exact rfl) (hT : opTs ops ⟨some d, op, ty, pos, aft, g⟩ = T := by (simp only [ft, nm, Nat.reduceAdd, Nat.reduceBEq, List.getElem?_cons_zero, List.getElem?_cons_succ]; exact rfl)) (hF : ftF 0 s op = F := by (simp only [ft, nm, Nat.reduceAdd, Nat.reduceBEq, List.getElem?_cons_zero, List.getElem?_cons_succ]; exact rfl)) (h : ∀ X V, AP Try.prog X ops (fun e s' => e = .normal ∧ s' = ⟨(msT T 0 s.t).set d av, msB F V 0 s.b⟩) [⟨some d, op, ty, pos, aft, g⟩] ⟨msT T 0 s.t, msB F V 0 s.b⟩ := by (intro X V; simp only [ft, nm, Nat.reduceAdd, Nat.reduceBEq]; (try (refine AP.Y ?_; dsimp only)); (first | refine AP.LB ?_ | refine AP.IX ?_ | refine AP.SV ?_ | refine AP.FV ?_); (try simp only [nx, Nat.reduceAdd, Nat.reduceSub, BEq.rfl]); refine AP.nil ?_; first | exact ⟨trivial, rfl⟩ | exact ⟨rfl, rfl⟩)) (hy : nyF F 0 s.b = true := by exact rfl) :
    DW Try.prog ops all K acc (⟨some d, op, ty, pos, aft, g⟩ :: l) s := DW.rd 0 hT hF h hk hy
theorem DW.WX (hk : DW Try.prog ops all K (⟨T, some d, F, true⟩ :: acc) l ⟨s.t.set d av, b2⟩) (hg : gdS ops s g = some r := by exact rfl) (hT : opTs ops ⟨some d, op, ty, pos, aft, g⟩ = T := by (simp only [ft, nm, Nat.reduceAdd, Nat.reduceBEq, List.getElem?_cons_zero, List.getElem?_cons_succ]; exact rfl)) (hF : ftF 1 s op = F := by (simp only [ft, nm, Nat.reduceAdd, Nat.reduceBEq, List.getElem?_cons_zero, List.getElem?_cons_succ]; exact rfl)) (h : ∀ X V, AP Try.prog X ops (fun e s' => e = .normal ∧ s'.t = (msT T 0 s.t).set d av ∧ Mg F V 0 s.b s'.b b2) [⟨some d, op, ty, pos, aft, g⟩] ⟨msT T 0 s.t, msB F V 0 s.b⟩ := by (intro X V; simp only [ft, nm, Nat.reduceAdd, Nat.reduceBEq]; (try (refine AP.Y ?_; dsimp only)); (first | refine AP.SF ?_ | refine AP.CV ?_ | refine AP.CO ?_); (try simp only [nx, Nat.reduceAdd, Nat.reduceSub, BEq.rfl]); refine AP.nil ?_; (first | refine ⟨trivial, rfl, ?_⟩ | refine ⟨rfl, rfl, ?_⟩); (repeat' (first | exact Mg.nil | apply Mg.keep rfl | apply Mg.take rfl)); all_goals fail))
    (hb : (∃ V : Nat → Nat, ∃ b1, Mg F V 0 s.b b1 b2) := by (refine Exists.intro (fun _ => 0) ?_; apply Exists.intro; (repeat' (first | exact Mg.nil | apply Mg.keep rfl | apply Mg.take rfl)); all_goals fail)) (hy : nyF F 0 s.b = true := by exact rfl) (hy2 : nyF F 0 b2 = true := by exact rfl) : DW Try.prog ops all K acc (⟨some d, op, ty, pos, aft, g⟩ :: l) s := DW.st 1 hT hF h hb hk hy hy2
theorem DW.WX' (hk : DW Try.prog ops all K (⟨T, none, F, true⟩ :: acc) l ⟨s.t, b2⟩) (hg : gdS ops s g = some r := by exact rfl) (hT : opTs ops ⟨none, op, ty, pos, aft, g⟩ = T := by (simp only [ft, nm, Nat.reduceAdd, Nat.reduceBEq, List.getElem?_cons_zero, List.getElem?_cons_succ]; exact rfl)) (hF : ftF 1 s op = F := by (simp only [ft, nm, Nat.reduceAdd, Nat.reduceBEq, List.getElem?_cons_zero, List.getElem?_cons_succ]; exact rfl)) (h : ∀ X V, AP Try.prog X ops (fun e s' => e = .normal ∧ s'.t = msT T 0 s.t ∧ Mg F V 0 s.b s'.b b2) [⟨none, op, ty, pos, aft, g⟩] ⟨msT T 0 s.t, msB F V 0 s.b⟩ := by (intro X V; simp only [ft, nm, Nat.reduceAdd, Nat.reduceBEq]; (try (refine AP.Y ?_; dsimp only)); (first | refine AP.TB ?_); (try simp only [nx, Nat.reduceAdd, Nat.reduceSub, BEq.rfl]); refine AP.nil ?_; (first | refine ⟨trivial, rfl, ?_⟩ | refine ⟨rfl, rfl, ?_⟩); (repeat' (first | exact Mg.nil | apply Mg.keep rfl | apply Mg.take rfl)); all_goals fail))
    (hb : (∃ V : Nat → Nat, ∃ b1, Mg F V 0 s.b b1 b2) := by (refine Exists.intro (fun _ => 0) ?_; apply Exists.intro; (repeat' (first | exact Mg.nil | apply Mg.keep rfl | apply Mg.take rfl)); all_goals fail)) (hy : nyF F 0 s.b = true := by exact rfl) (hy2 : nyF F 0 b2 = true := by exact rfl) : DW Try.prog ops all K acc (⟨none, op, ty, pos, aft, g⟩ :: l) s := DW.stN 1 hT hF h hb hk hy hy2
end
end Go.Proofs.Ytmiajenjgcdhgaa

namespace Go.Proofs.Ytmiajenjgcdhgaa
set_option linter.unusedVariables false
set_option linter.unusedSimpArgs false
open Go.RowKit
set_option maxRecDepth 100000
mutual
def fzv (b u k : Nat) (s0 : List (List AV)) : AV → AV
  | .hd b' u' => match b' == b && u' == u with
    | true => .sl none k s0
    | false => .hd b' u'
  | .ag l => .ag (fzc b u k s0 l)
  | .sc v => .sc v
  | .sl o k' s => .sl o k' s
  | .bp b' u' o => .bp b' u' o
  | .ep b' u' k' i o => .ep b' u' k' i o
  | .rp k' s i o => .rp k' s i o
  | .tu l => .tu l
  | .gd p a => .gd p a
  | .fs k' s => .fs k' s
  | .fn f c => .fn f c
  | .hf b' u' => .hf b' u'
  | .sb b' u' k' o n c => .sb b' u' k' o n c
  | .de => .de
  | .ob T l => .ob T l
  | .mo ks s => .mo ks s
def fzc (b u k : Nat) (s0 : List (List AV)) : List AV → List AV
  | [] => []
  | a :: l => fzv b u k s0 a :: fzc b u k s0 l
end
mutual
theorem fzv_rel (b u k : Nat) (s0 : List (List AV)) : ∀ a : AV, FzV b u k s0 a (fzv b u k s0 a)
  | .hd b' u' => by
    unfold fzv
    split
    · rename_i h1
      rw [Bool.and_eq_true] at h1
      obtain rfl := eq_of_beq h1.1
      obtain rfl := eq_of_beq h1.2
      exact .hd
    · exact .same
  | .ag l => .ag (fzc_rel b u k s0 l)
  | .sc _ => .same
  | .sl _ _ _ => .same
  | .bp _ _ _ => .same
  | .ep _ _ _ _ _ => .same
  | .rp _ _ _ _ => .same
  | .tu _ => .same
  | .gd _ _ => .same
  | .fs _ _ => .same
  | .fn _ _ => .same
  | .hf _ _ => .same
  | .sb _ _ _ _ _ _ => .same
  | .de => .same
  | .ob _ _ => .same
  | .mo _ _ => .same
theorem fzc_rel (b u k : Nat) (s0 : List (List AV)) : ∀ l : List AV, FzC b u k s0 l (fzc b u k s0 l)
  | [] => .nil
  | a :: l => .cons (fzv_rel b u k s0 a) (fzc_rel b u k s0 l)
end
def fzb (b u k : Nat) (s0 : List (List AV)) : List Sl → List Sl
  | [] => []
  | ⟨v, .c T c⟩ :: l => ⟨v, .c T (fzc b u k s0 c)⟩ :: fzb b u k s0 l
  | e :: l => e :: fzb b u k s0 l
theorem fzb_rel (b u k : Nat) (s0 : List (List AV)) : ∀ l : List Sl, FzB b u k s0 l (fzb b u k s0 l)
  | [] => .nil
  | ⟨v, .c T c⟩ :: l => .c (fzc_rel b u k s0 c) (fzb_rel b u k s0 l)
  | ⟨v, .r e k' s⟩ :: l => .same (fzb_rel b u k s0 l)
  | ⟨v, .x⟩ :: l => .same (fzb_rel b u k s0 l)
  | ⟨v, .o⟩ :: l => .same (fzb_rel b u k s0 l)
  | ⟨v, .y J⟩ :: l => .same (fzb_rel b u k s0 l)
  | ⟨v, .f _ _ _ _ _⟩ :: l => .same (fzb_rel b u k s0 l)
  | ⟨v, .m _ _ _ _⟩ :: l => .same (fzb_rel b u k s0 l)
/-- array b is given up -/
def fzS (s : AS) (b : Nat) : Option AS :=
  match s.b[b]? with
  | some ⟨u, .r _ k rows⟩ => some ⟨fzc b u k (roE rows) s.t, fzb b u k (roE rows) (s.b.set b ⟨u, .x⟩)⟩
  | _ => none
theorem gh_fzS {s s' : AS} {b : Nat} (h : fzS s b = some s') : Gh s s' := by
  unfold fzS at h
  split at h
  · rename_i hs
    injection h with h; subst h
    exact gh_fz hs rfl (fzc_rel _ _ _ _ _) (fzb_rel _ _ _ _ _)
  · cases h
def fzA : AS → List AV → Option AS
  | _, [] => none
  | s, .hd b _ :: l => match fzS s b with
    | some s' => match fzA s' l with
      | some s'' => some s''
      | none => some s'
    | none => fzA s l
  | s, _ :: l => fzA s l
theorem gh_fzA : ∀ {l : List AV} {s s' : AS}, fzA s l = some s' → Gh s s'
  | [], _, _, h => by cases h
  | a :: l, s, s', h => by
    cases a with
    | hd b u =>
      simp only [fzA] at h
      split at h
      · rename_i s1 h1
        split at h
        · rename_i s2 h2
          injection h with h; subst h
          exact (gh_fzS h1).trans (gh_fzA h2)
        · injection h with h; subst h
          exact gh_fzS h1
      · exact gh_fzA h
    | _ => exact gh_fzA (l := l) h
theorem AP.PF {P : Program} {X : Cx} {s s1 : AS} {ops : Array Oper} {rest : List Oper} {o : Oper} {Q : Exit → AS → Prop} {fo : Operand} {xs : Array Operand} {tys : Array TypeId} (K : AP P X ops Q (o :: rest) s1) (ho : o.op = .call { callee := .value fo, args := xs, argTypes := tys } := by exact rfl) (h : fzA s (xs.toList.map (aev s)) = some s1 := by exact rfl) : AP P X ops Q (o :: rest) s := AP.gh (gh_fzA h) K
theorem fq : type_of% (And.intro @fzc.eq_1 (And.intro @fzc.eq_2 (And.intro @fzv.eq_1 (And.intro @fzv.eq_2 (And.intro @fzv.eq_3 (And.intro @fzv.eq_4 (And.intro @fzv.eq_5 (And.intro @fzv.eq_6 (And.intro @fzv.eq_7 (And.intro @fzv.eq_8 (And.intro @fzv.eq_9 (And.intro @fzv.eq_10 (And.intro @fzv.eq_11 (And.intro @fzv.eq_12 (And.intro @fzv.eq_13 (And.intro @fzv.eq_14 (And.intro @fzb.eq_1 (And.intro @fzb.eq_2 @fzb.eq_3)))))))))))))))))) := (And.intro @fzc.eq_1 (And.intro @fzc.eq_2 (And.intro @fzv.eq_1 (And.intro @fzv.eq_2 (And.intro @fzv.eq_3 (And.intro @fzv.eq_4 (And.intro @fzv.eq_5 (And.intro @fzv.eq_6 (And.intro @fzv.eq_7 (And.intro @fzv.eq_8 (And.intro @fzv.eq_9 (And.intro @fzv.eq_10 (And.intro @fzv.eq_11 (And.intro @fzv.eq_12 (And.intro @fzv.eq_13 (And.intro @fzv.eq_14 (And.intro @fzb.eq_1 (And.intro @fzb.eq_2 @fzb.eq_3))))))))))))))))))
end Go.Proofs.Ytmiajenjgcdhgaa

namespace Go.Proofs.Ytmiajenjgcdhgaa
set_option linter.unusedVariables false
set_option linter.unusedSimpArgs false
open Go.RowKit
set_option maxRecDepth 100000
section
variable {X : Cx} {φ φ' : Fi} {κ κ' : Ka} {f : Nat → Ct} {L L' : Ct} {s s' : AS} {a : Act} {w w' : World} {R : Nat → Prop}
/-- a row is laid open -/
theorem SatW.openR (h : SatW X φ κ f L s a w) {j u k n : Nat} {e : TypeId} {rows : List (List AV)} {c c' : List AV} {b2 : List Sl} (hj : s.b[j]? = some ⟨u, .r e k rows⟩) (hc : rows[n]? = some c) (hop : opnC c (s.b.set j ⟨u, .o⟩) = (c', b2)) (hk : b2[j]? = some ⟨u, .o⟩) :
    ∃ φ' κ' f', (∀ b u g, φ b u = some g → φ' b u = some g) ∧ (∀ b u v, κ b u = some v → κ' b u = some v) ∧ SatW X φ' κ' f' L ⟨s.t, b2.set j ⟨u, .f e k rows n c'⟩⟩ a w := by
  obtain ⟨hrs, ht⟩ := h.take hj .o fun _ _ => .o
  generalize hF : f j = F at hrs ht
  cases hrs with
  | r hκ hv =>
    cases hv with
    | ni => simp at hc
    | ne => simp at hc
    | @om _ _ _ g cap cur us S _ he hmk hle hm hsz htk hS =>
      obtain ⟨us1, cs, us2, S1, Sc, S2, e1, e2, e3, e4, e5, e6, e7, e8⟩ := RE.part he hc
      obtain ⟨φ1, κ1, f1, p1, p2, p3, p4⟩ := SatW.opnC_ (L' := fun x => ((if x = g then 1 else 0) + (S1 x + S2 x)) + L x) ht e2 (fun x => by (try dsimp only); rw [hS, e8]; omega) fun x hx => leaf_fl (e5 x hx)
      simp only [hop] at p3 p4
      have hz : ∀ x, f1 j x = 0 := fun x => by
        have := p4.sl j _ hk
        generalize f1 j = F at this
        cases this; rfl
      refine ⟨φ1, κ1, _, p1, p2, p4.turn (w' := w) (B := .f e k rows n c') (u := u) (g := fun x => (if x = g then 1 else 0) + (S1 x + S2 x)) (L' := L) hk (fun _ _ _ h => h) (fun _ _ _ h => h) (Nat.le_refl _) rfl rfl rfl (fun _ _ _ => rfl) ?_ (fun x _ => by (try dsimp only); rw [hz x]; omega) (fun x hx => ?_) (Nat.le_refl _) (fun _ _ _ h => h) (fun _ _ _ h => h)⟩
      · exact .f (p2 _ _ _ hκ) (.yes (List.getElem?_eq_some_iff.1 hc).1 (RE.hist p1 p2 (fun _ h => h) e1) p3 e3 e4 (RE.hist p1 p2 (fun _ h => h) e6) e7 fun _ => rfl) hmk hle hm hsz htk fun _ => rfl
      · have h7 := p4.one x
        have h8 := p4.own x
        dsimp only at h7 h8
        exact ⟨by omega, fun h0 => (h8 (by omega)).1⟩
/-- and shut -/
theorem SatW.shutR (h : SatW X φ κ f L s a w) {j u k n : Nat} {e : TypeId} {rows : List (List AV)} {c c' : List AV} {b1 : List Sl} (hj : s.b[j]? = some ⟨u, .f e k rows n c⟩) (hcl : ClsC (s.b.set j ⟨u, .o⟩) c c' b1) (hk : b1[j]? = some ⟨u, .o⟩) :
    ∃ X' f', X.le X' ∧ SatW X' φ κ f' L ⟨s.t, b1.set j ⟨u, .r e k (rows.set n c')⟩⟩ a w := by
  obtain ⟨hrs, ht⟩ := h.take hj .o fun _ _ => .o
  generalize hF : f j = F at hrs ht
  cases hrs with
  | @f _ _ _ _ _ g cap cur us S' _ hκ hro hmk hle hm hsz htk hS =>
    cases hro with
    | yes hn e1 e2 e3 e4 e6 e7 e8 =>
      obtain ⟨X1, Sc, f1, hX1, p1, p2, p3⟩ := SatW.cls hcl ht e2
      have hz : ∀ x, f1 j x = 0 := fun x => by
        have := p3.sl j _ hk
        generalize f1 j = F at this
        cases this; rfl
      rename_i us1 cs us2 S1 S2
      have hhist : ∀ {s us S}, RE w φ κ X.R k s us S → RE w φ κ X1.R k s us S := fun h => RE.hist (fun _ _ _ h => h) (fun _ _ _ h => h) hX1.up h
      have hj2 := RE.join hn (hhist e1) p1 e3 e4 p2 (hhist e6) (S := fun x => S1 x + Sc x + S2 x) fun _ => rfl
      refine ⟨X1, _, hX1, p3.turn (w' := w) (B := .r e k (rows.set n c')) (u := u) (g := fun x => (if x = g then 1 else 0) + (S1 x + Sc x + S2 x)) (L' := L) hk (fun _ _ _ h => h) (fun _ _ _ h => h) (Nat.le_refl _) rfl rfl rfl (fun _ _ _ => rfl) ?_ (fun x _ => by (try dsimp only); rw [hz x, hS, e8]; omega) (fun x hx => ?_) (Nat.le_refl _) (fun _ _ _ h => h) (fun _ _ _ h => h)⟩
      · have := RV.om (e := e) (T := fun x => (if x = g then 1 else 0) + (S1 x + Sc x + S2 x)) hj2 hmk (by simpa using hle) hm hsz (by simp; rw [htk, e7]; simp) fun _ => rfl
        rw [List.length_set] at this
        exact .r hκ this
      · have h7 := p3.one x
        have h8 := p3.own x
        dsimp only at h7 h8
        rw [hS, e8] at h7 h8
        exact ⟨by omega, fun h0 => (h8 (by omega)).1⟩
end
/-- shut, by a function: what is owned goes back as owned -/
def clsO : Nat → List Sl → List AV → Option (List AV × List Sl)
  | 0, _, _ => none
  | _ + 1, b, [] => some ([], b)
  | n + 1, b, a :: l =>
    match a with
    | .hd i u => match b[i]? with
      | some ⟨v, .r e k r⟩ => match Nat.beq v u, clsO n (b.set i ⟨v, .x⟩) l with
        | true, some (l', b') => some (.sl (some e) k r :: l', b')
        | _, _ => none
      | some ⟨v, .m ks r none _⟩ => match Nat.beq v u, clsO n (b.set i ⟨v, .x⟩) l with
        | true, some (l', b') => some (.mo ks r :: l', b')
        | _, _ => none
      | some ⟨v, .m ks r (some (m, c)) _⟩ => match Nat.beq v u, clsO n (b.set i ⟨v, .x⟩) c with
        | true, some (c', b1) => match clsO n b1 l with
          | some (l', b') => some (.mo ks (r.set m c') :: l', b')
          | none => none
        | _, _ => none
      | some ⟨v, .f e k r m c⟩ => match Nat.beq v u, clsO n (b.set i ⟨v, .x⟩) c with
        | true, some (c', b1) => match clsO n b1 l with
          | some (l', b') => some (.sl (some e) k (r.set m c') :: l', b')
          | none => none
        | _, _ => none
      | _ => none
    | .bp i u 0 => match b[i]? with
      | some ⟨v, .c T c⟩ => match Nat.beq v u, clsO n (b.set i ⟨v, .x⟩) c with
        | true, some (c', b1) => match clsO n b1 l with
          | some (l', b') => some (.ob T c' :: l', b')
          | none => none
        | _, _ => none
      | _ => none
    | .fn f c => match c, clsO n b l with
      | [], some (l', b') => some (.sc (.func (.func f) #[] #[]) :: l', b')
      | _, _ => none
    | .sc v => match clsO n b l with
      | some (l', b') => some (.sc v :: l', b')
      | none => none
    | .sl o k r => match clsO n b l with
      | some (l', b') => some (.sl o k r :: l', b')
      | none => none
    | .ob T c => match clsO n b l with
      | some (l', b') => some (.ob T c :: l', b')
      | none => none
    | .mo ks r => match clsO n b l with
      | some (l', b') => some (.mo ks r :: l', b')
      | none => none
    | _ => none
theorem clsO_of : ∀ {n : Nat} {b : List Sl} {l l' : List AV} {b' : List Sl}, clsO n b l = some (l', b') → ClsC b l l' b'
  | 0, b, l, l', b', h => by simp [clsO] at h
  | n + 1, b, [], l', b', h => by simp only [clsO, Option.some.injEq, Prod.mk.injEq] at h; obtain ⟨rfl, rfl⟩ := h; exact .nil
  | n + 1, b, a :: l, l', b', h => by
    unfold clsO at h
    split at h
    · split at h <;> try cases h
      · rename_i hb
        split at h <;> try cases h
        rename_i hv hc
        have := Nat.eq_of_beq_eq_true hv; subst this
        exact .hd hb (clsO_of hc)
      · rename_i hb
        split at h <;> try cases h
        rename_i hv hc
        have := Nat.eq_of_beq_eq_true hv; subst this
        exact .mo hb (clsO_of hc)
      · rename_i hb
        split at h <;> try cases h
        rename_i hv hc
        have := Nat.eq_of_beq_eq_true hv; subst this
        split at h <;> try cases h
        rename_i hd
        exact .mp hb (clsO_of hc) (clsO_of hd)
      · rename_i hb
        split at h <;> try cases h
        rename_i hv hc
        have := Nat.eq_of_beq_eq_true hv; subst this
        split at h <;> try cases h
        rename_i hd
        exact .hp hb (clsO_of hc) (clsO_of hd)
    · split at h <;> try cases h
      rename_i hb
      split at h <;> try cases h
      rename_i hv hc
      have := Nat.eq_of_beq_eq_true hv; subst this
      split at h <;> try cases h
      rename_i hd
      exact .ob hb (clsO_of hc) (clsO_of hd)
    · split at h <;> try cases h
      rename_i hc
      exact .fn (clsO_of hc)
    · split at h <;> try cases h
      rename_i hc
      exact .leaf rfl (clsO_of hc)
    · split at h <;> try cases h
      rename_i hc
      exact .leaf rfl (clsO_of hc)
    · split at h <;> try cases h
      rename_i hc
      exact .leaf rfl (clsO_of hc)
    · split at h <;> try cases h
      rename_i hc
      exact .leaf rfl (clsO_of hc)
    · cases h
section
variable {s s' : AS}
theorem gh_open {j u k n : Nat} {e : TypeId} {rows : List (List AV)} {c c' : List AV} {b2 : List Sl} (hj : s.b[j]? = some ⟨u, .r e k rows⟩) (hc : rows[n]? = some c) (hop : opnC c (s.b.set j ⟨u, .o⟩) = (c', b2)) (hk : b2[j]? = some ⟨u, .o⟩) : Gh s ⟨s.t, b2.set j ⟨u, .f e k rows n c'⟩⟩ := by
  rintro X a w ⟨X', φ, κ, f, hX, h⟩
  obtain ⟨φ', κ', f', _, _, h1⟩ := h.openR hj hc hop hk
  exact ⟨X', φ', κ', f', hX, h1⟩
end
end Go.Proofs.Ytmiajenjgcdhgaa

namespace Go.Proofs.Ytmiajenjgcdhgaa
set_option linter.unusedVariables false
set_option linter.unusedSimpArgs false
open Go.RowKit
set_option maxRecDepth 100000
theorem ty_mp {T K E : Nat} {i : TI} (hT : tt[T]? = some i) (hk : i.kd = .mp K E) : Try.prog.underlying T = some (.map K E) := by
  obtain ⟨d, j, hd, _, h1, _⟩ := TI.parts (ty hT)
  rw [hk] at h1
  cases d with
  | map k v =>
    simp only [Kd.is, Bool.and_eq_true, beq_iff_eq] at h1
    obtain ⟨rfl, rfl⟩ := h1
    exact hd
  | _ => simp [Kd.is] at h1
/-- a key's value -/
def kvl : AV → Option Value
  | .sc v => some v
  | .ag l => match scs l with
    | some vs => some (.agg vs.toArray)
    | none => none
  | _ => none
/-- the cell of a row, also of the one that lies open -/
def rowAt (rows : List (List AV)) : Option (Nat × List AV) → Nat → Option AV
  | some (m, c), n => match Nat.beq m n with
    | true => c[0]?
    | false => match rows[n]? with
      | some r => match r[0]? with
        | some a => some a.cp
        | none => none
      | none => none
  | none, n => match rows[n]? with
    | some r => match r[0]? with
      | some a => some a.cp
      | none => none
    | none => none
/-- what a look-up tells -/
def lkV (ok : Bool) (av : AV) (is : Bool) : AV := match ok with
  | true => .tu [av, .sc (.bool is)]
  | false => av
/-- what may lie in a row as it is -/
def AV.pl : AV → Bool
  | .sc _ | .sl none _ _ => true
  | _ => false
def AV.nag : AV → Bool
  | .ag _ => false
  | _ => true
def oRow (n : Nat) (av : AV) : Option (Nat × List AV) := match av.pl with
  | true => none
  | false => some (n, [av])
def cRow (av : AV) : List AV := match av.pl with
  | true => [av]
  | false => [.de]
section
variable {X : Cx} {φ φ' : Fi} {κ κ' : Ka} {f : Nat → Ct} {L L' : Ct} {s s' : AS} {a : Act} {w w' : World} {R : Nat → Prop} {o : Oper} {av : AV}
theorem RV.kvl {a : AV} {v kv : Value} {S : Ct} (h : RV w φ κ R a v S) (hk : kvl a = some kv) : v = kv := by
  cases a <;> simp only [Go.Proofs.Ytmiajenjgcdhgaa.kvl] at hk <;> try cases hk
  · cases h; rfl
  · split at hk <;> cases hk
    rename_i hs
    cases h with
    | ag hc _ => rw [hc.scs hs]
theorem RE.k1 {rows : List (List AV)} {us : List Value} {S : Ct} (h : RE w φ κ R 1 rows us S) {n : Nat} {r : List AV} {x : AV} (hr : rows[n]? = some r) (hx : r[0]? = some x) : ∃ v, us[n]? = some v ∧ RV w φ κ R x.cp v Ct.z := by
  obtain ⟨cs, T, hc, hl, ho, hat⟩ := RE.at' h hr
  obtain ⟨v, hv, hrv⟩ := hc.at' ho.2 hx
  exact ⟨v, by simpa using hat 0 v hv, hrv⟩
theorem RO.at_ {rows : List (List AV)} {op : Option (Nat × List AV)} {us : List Value} {S : Ct} (h : RO w φ κ R 1 rows op us S) {n : Nat} (hn : rowAt rows op n = some av) : ∃ v, us[n]? = some v ∧ RV w φ κ R av v Ct.z := by
  cases h with
  | no he =>
    simp only [rowAt] at hn
    split at hn <;> try cases hn
    rename_i hr
    split at hn <;> cases hn
    rename_i hx
    exact he.k1 hr hx
  | @yes m c us1 cs us2 _ S1 S2 _ hm e1 e2 e3 e4 e6 e7 e8 =>
    have l1 := e1.length
    rw [List.length_take, Nat.mul_one, Nat.min_eq_left (Nat.le_of_lt hm)] at l1
    simp only [rowAt] at hn
    split at hn
    · rename_i hb
      have := Nat.eq_of_beq_eq_true hb; subst this
      obtain ⟨v, hv, hr⟩ := e2.at_ hn
      refine ⟨v, ?_, hr⟩
      rw [e7, List.append_assoc, List.getElem?_append_right (by omega), l1, Nat.sub_self]
      rw [List.getElem?_append_left (by omega)]; exact hv
    · rename_i hb
      have hne : m ≠ n := by intro h; subst h; simp at hb
      split at hn <;> try cases hn
      rename_i r hr
      split at hn <;> cases hn
      rename_i hx
      rcases Nat.lt_or_gt_of_ne hne with hlt | hlt
      · have : (rows.drop (m + 1))[n - (m + 1)]? = some r := by rw [List.getElem?_drop, show m + 1 + (n - (m + 1)) = n by omega]; exact hr
        obtain ⟨v, hv, hrv⟩ := e6.k1 this hx
        refine ⟨v, ?_, hrv⟩
        rw [e7, List.getElem?_append_right (by simp; omega)]
        rw [show n - (us1 ++ cs).length = n - (m + 1) by simp; omega]; exact hv
      · have : (rows.take m)[n]? = some r := by rw [List.getElem?_take, if_pos hlt]; exact hr
        obtain ⟨v, hv, hrv⟩ := e1.k1 this hx
        refine ⟨v, ?_, hrv⟩
        rw [e7, List.append_assoc, List.getElem?_append_left (by omega)]; exact hv
theorem RO.len {rows : List (List AV)} {op : Option (Nat × List AV)} {us : List Value} {S : Ct} {k : Nat} (h : RO w φ κ R k rows op us S) : us.length = rows.length * k := by
  cases h with
  | no he => exact he.length
  | @yes m c us1 cs us2 _ S1 S2 _ hm e1 e2 e3 e4 e6 e7 e8 =>
    have l1 := e1.length
    have l2 := e6.length
    rw [e7]
    simp only [List.length_append, l1, l2, e3, List.length_take, List.length_drop]
    rw [Nat.min_eq_left (Nat.le_of_lt hm)]
    have : rows.length = m + (1 + (rows.length - (m + 1))) := by omega
    conv => rhs; rw [this]
    rw [Nat.add_mul, Nat.add_mul]; omega
/-- what a map's number stands for -/
theorem SatW.map_ (h : SatW X φ κ f L s a w) {x : Operand} {j u : Nat} {ks : List Value} {rows : List (List AV)} {op : Option (Nat × List AV)} {st : Option (Nat × Nat × Nat)} (hx : aev s x = .hd j u) (hs : s.b[j]? = some ⟨u, .m ks rows op st⟩) :
    ∃ g es clock us S, a.eval x = .map (some g) ∧ w.heap[g]? = some (.map es clock) ∧ MapIn es clock ks us ∧ RO w φ κ X.R 1 rows op us S ∧ StIn κ es st ∧ κ j u = some (.map (some g)) ∧ ∀ y, f j y = (if y = g then 1 else 0) + S y := by
  have h1 := h.evs hx
  have h2 := h.sl j _ hs
  generalize a.eval x = p at h1
  generalize f j = F at h2
  cases h1 with
  | hd hκ _ =>
    cases h2 with
    | @m _ _ _ _ g es clock us S _ hκ' hro hh hm hst hS =>
      rw [hκ] at hκ'; injection hκ' with e; subst e
      exact ⟨g, es, clock, us, S, rfl, hh, hm, hro, hst, hκ, hS⟩
theorem MapIn.keys {es : Array MapEntry} {clock : Nat} {ks us : List Value} (h : MapIn es clock ks us) {P : Program} {K : TypeId} {sh : List Sh} (hk : ∀ k ∈ ks, isKey P K sh k = true) : ∀ e ∈ es.toList, isKey P K sh e.key = true := fun e he => hk _ (by rw [← h.ky]; exact List.mem_map.2 ⟨e, he, rfl⟩)
theorem MapIn.at_ {es : Array MapEntry} {clock : Nat} {ks us : List Value} (h : MapIn es clock ks us) {n : Nat} {k v : Value} (hk : ks[n]? = some k) (hv : us[n]? = some v) : ∃ e, es[n]? = some e ∧ e.key = k ∧ e.val = v := by
  rw [← h.ky, List.getElem?_map, Option.map_eq_some_iff] at hk
  obtain ⟨e, he, rfl⟩ := hk
  rw [← h.vl, List.getElem?_map, he] at hv
  simp at hv
  exact ⟨e, by simpa using he, rfl, hv⟩
theorem run_zero1 {E : Nat} {ie : TI} {c : ZC} (hE : tt[E]? = some ie) (hz : ie.zero = some [c]) (hr : rowK ie.kd = false) (w : World) : (zeroValue E).run Try.prog w = .ok c.val w := by
  obtain ⟨d, j, hd, hj, h1, _, _, hzz⟩ := TI.parts (ty hE)
  obtain ⟨v, hv, hvc, _, hag, htu⟩ := hzz _ hz
  have : v = c.val := by
    have hna : ¬ ∃ c, v = .agg c := by
      rw [hag]
      cases hk : ie.kd <;> rw [hk] at h1 hr <;> simp [rowK] at hr <;> cases d <;> simp [Kd.is] at h1 ⊢
    have : v.cells.toList = [v] := by
      cases v <;> first | rfl | (exact absurd ⟨_, rfl⟩ hna) | (exact absurd rfl (htu _))
    rw [this] at hvc
    simpa using hvc
  subst this
  simp [zeroValue, typeInfo, hj, hv, go_sem]
/-- looked up, found -/
theorem pq_look {T K E n : Nat} {x y : Operand} {ok : Bool} {j u : Nat} {ks : List Value} {rows : List (List AV)} {op : Option (Nat × List AV)} {st : Option (Nat × Nat × Nat)} {kv : Value} {i : TI} {sh : List Sh}
    (ho : o.op = .lookup T x y ok) (hx : aev s x = .hd j u) (hs : s.b[j]? = some ⟨u, .m ks rows op st⟩) (hy : kvl (aev s y) = some kv) (hT : tt[T]? = some i) (hk : i.kd = .mp K E) (hf : flatT Try.prog 9 K = some sh) (hkv : isKey Try.prog K sh kv = true) (hks : ∀ k ∈ ks, isKey Try.prog K sh k = true)
    (hn : fnd kv ks = some n) (hr : rowAt rows op n = some av) : Pq Try.prog X s o (lkV ok av true) := .of_run fun X φ κ f a w h => by
  obtain ⟨g, es, clock, us, S, he, hh, hm, hro, _, _, hS⟩ := h.map_ hx hs
  have hyv := (h.ev y).kvl hy
  obtain ⟨v, hv, hrv⟩ := hro.at_ hr
  obtain ⟨k', hk', hkq⟩ := fnd_at hn
  obtain ⟨e, hen, hek, hev⟩ := hm.at_ hk' hv
  have hfE : fndE kv es.toList = some (n, v) := by
    simp only [fndE, hm.ky, hn]; simp [hen, hev]
  have hjl : j < s.b.length := (List.getElem?_eq_some_iff.1 hs).1
  have hrun : ∀ w', Below w.heap.size w w' → (execOp a.eval o).run Try.prog w' = .ok (.value (if ok then .tuple #[v, .bool true] else v)) w' := fun w' hb => by
    have hgl : g < w.heap.size := (Array.getElem?_eq_some_iff.1 hh).1
    have hh' : w'.heap[g]? = some (.map es clock) := (hb.block g hgl).trans hh
    have e1 := run_findKey_flat (w := w') (es := es.toList) hf hkv (hm.keys hks)
    have e2 : (Instr.lookup T (.map (some g)) kv ok).run Try.prog w' = .ok (if ok then .tuple #[v, .bool true] else v) w' := by
      simp [Instr.lookup, run_underlying (ty_mp hT hk), MapKept.run_getObj_map hh', run_check es.isEmpty hf hkv, e1, hfE, Result.andThen]
    simp only [execOp, ho, he, hyv, Sem.run_bind, e2]; rfl
  cases ok with
  | true => exact ⟨_, .tu (.cons (S := Ct.z) (T := Ct.z) hrv (.cons (S := Ct.z) (T := Ct.z) (.sc rfl) .nil fun _ => rfl) fun _ => rfl), fun w' hb => by simpa using hrun w' hb⟩
  | false => exact ⟨_, hrv, fun w' hb => by simpa using hrun w' hb⟩
/-- looked up, not there -/
theorem pq_lookN {T K E : Nat} {x y : Operand} {ok : Bool} {j u : Nat} {ks : List Value} {rows : List (List AV)} {op : Option (Nat × List AV)} {st : Option (Nat × Nat × Nat)} {kv : Value} {i ie : TI} {sh : List Sh} {c : ZC}
    (ho : o.op = .lookup T x y ok) (hx : aev s x = .hd j u) (hs : s.b[j]? = some ⟨u, .m ks rows op st⟩) (hy : kvl (aev s y) = some kv) (hT : tt[T]? = some i) (hk : i.kd = .mp K E) (hE : tt[E]? = some ie) (hz : ie.zero = some [c]) (hrk : rowK ie.kd = false) (hf : flatT Try.prog 9 K = some sh) (hkv : isKey Try.prog K sh kv = true) (hks : ∀ k ∈ ks, isKey Try.prog K sh k = true)
    (hn : fnd kv ks = none) : Pq Try.prog X s o (lkV ok (.sc c.val) false) := .of_run fun X φ κ f a w h => by
  obtain ⟨g, es, clock, us, S, he, hh, hm, hro, _, _, hS⟩ := h.map_ hx hs
  have hyv := (h.ev y).kvl hy
  have hfE : fndE kv es.toList = none := by simp only [fndE, hm.ky, hn]
  have hone : c.val.oneCell' = true := by cases c <;> rfl
  have hrun : ∀ w', Below w.heap.size w w' → (execOp a.eval o).run Try.prog w' = .ok (.value (if ok then .tuple #[c.val, .bool false] else c.val)) w' := fun w' hb => by
    have hgl : g < w.heap.size := (Array.getElem?_eq_some_iff.1 hh).1
    have hh' : w'.heap[g]? = some (.map es clock) := (hb.block g hgl).trans hh
    have e1 := run_findKey_flat (w := w') (es := es.toList) hf hkv (hm.keys hks)
    have e2 : (Instr.lookup T (.map (some g)) kv ok).run Try.prog w' = .ok (if ok then .tuple #[c.val, .bool false] else c.val) w' := by
      simp [Instr.lookup, run_underlying (ty_mp hT hk), MapKept.run_getObj_map hh', run_check es.isEmpty hf hkv, e1, hfE, run_zero1 hE hz hrk, Result.andThen]
    simp only [execOp, ho, he, hyv, Sem.run_bind, e2]; rfl
  cases ok with
  | true => exact ⟨_, .tu (.cons (S := Ct.z) (T := Ct.z) (.sc hone) (.cons (S := Ct.z) (T := Ct.z) (.sc rfl) .nil fun _ => rfl) fun _ => rfl), fun w' hb => by simpa using hrun w' hb⟩
  | false => exact ⟨_, .sc hone, fun w' hb => by simpa using hrun w' hb⟩
variable {ops : Array Oper} {rest : List Oper} {Q : Exit → AS → Prop}
/-- a map is made -/
theorem ap_makeMap {T : Nat} (hg : o.guard = none) (ho : o.op = .makeMap T none)
    (K : AP Try.prog X ops Q rest (AS.put ⟨s.t, (newS s.b (.m [] [] none none)).2⟩ o.dst (.hd (newS s.b (.m [] [] none none)).1.1 (newS s.b (.m [] [] none none)).1.2))) : AP Try.prog X ops Q (o :: rest) s :=
  .run hg (fun X φ κ f a w h => by
    have hrun : (execOp a.eval o).run Try.prog w = .ok (.value (.map (some w.heap.size))) (w.alloc (.map #[] 0)) := by
      simp only [execOp, ho]; rfl
    obtain ⟨φ', κ', f', e1, e2, _, e4, e5⟩ := h.newS_ (w' := w.alloc (.map #[] 0)) (B := .m [] [] none none) (g := fun x => (if x = w.heap.size then 1 else 0) + Ct.z x) (L' := Ct.z) none (some (.map (some w.heap.size))) (by simp) rfl rfl rfl
      (fun x hx _ => Below.heap_alloc w _ x hx) (fun φ' κ' j u a b c d => .m d (.no .nil) (heap_alloc_new w _) MapIn.nil trivial fun _ => rfl)
      (fun x hx => by simp [Ct.z]; omega) (fun x hx => by simp only [Ct.z]; split <;> simp_all)
    exact ⟨_, _, φ', κ', f', hrun, e5.puts o.dst (.hd e4 rfl)⟩) K
/-- what a value is, as a row -/
theorem RO.put {rows : List (List AV)} {us : List Value} {S : Ct} {v : Value} {n : Nat} (he : RE w φ κ R 1 (rows.take n) (us.take n) S) {S2 : Ct} (hd : RE w φ κ R 1 (rows.drop (n + 1)) (us.drop (n + 1)) S2) (hn : n < rows.length) (hv : RV w φ κ R av v Ct.z) (ho : v.oneCell' = true) (T : Ct) (hT : ∀ x, T x = S x + S2 x) :
    RO w φ κ R 1 (rows.set n (cRow av)) (oRow n av) (us.take n ++ [v] ++ us.drop (n + 1)) T := by
  have hl : rows.set n (cRow av) = rows.take n ++ cRow av :: rows.drop (n + 1) := by rw [List.set_eq_take_append_cons_drop, if_pos hn]
  cases hp : av.pl with
  | true =>
    have hc : cRow av = [av] := by unfold cRow; rw [hp]
    have hor : oRow n av = none := by unfold oRow; rw [hp]
    have hlf : av.leaf = true := by cases av <;> first | rfl | (cases hp; done)
    rw [hor, hl, hc, List.append_assoc]
    refine .no (he.append (T := fun x => Ct.z x + S2 x) (.cons (S := Ct.z) (T := S2) (us := [v]) (.cons (S := Ct.z) (T := Ct.z) hv .nil fun _ => rfl) rfl ⟨fun u hu => (by simp at hu; subst hu; exact ho), fun x hx => (by simp at hx; subst hx; exact hlf)⟩ hd fun _ => rfl) fun x => ?_)
    rw [hT]; simp [Ct.z]
  | false =>
    have hor : oRow n av = some (n, [av]) := by unfold oRow; rw [hp]
    have ht : ∀ c : List AV, (rows.set n c).take n = rows.take n := fun c => by rw [List.take_set_of_le (Nat.le_refl _)]
    have hdr : ∀ c : List AV, (rows.set n c).drop (n + 1) = rows.drop (n + 1) := fun c => by rw [List.drop_set_of_lt (by omega)]
    rw [hor]
    exact .yes (by simpa using hn) (by rw [ht]; exact he) (.cons (S := Ct.z) (T := Ct.z) hv .nil fun _ => rfl) rfl (fun u hu => (by simp at hu; subst hu; exact ho)) (by rw [hdr]; exact hd) rfl hT
theorem RE.split {k n : Nat} : ∀ {rows : List (List AV)} {us : List Value} {S : Ct}, RE w φ κ R k rows us S → n ≤ rows.length → ∃ S1 S2, RE w φ κ R k (rows.take n) (us.take (n * k)) S1 ∧ RE w φ κ R k (rows.drop n) (us.drop (n * k)) S2 ∧ ∀ x, S x = S1 x + S2 x := by
  induction n with
  | zero => intro rows us S h _; exact ⟨Ct.z, S, by simpa using RE.nil, by simpa using h, fun x => by simp [Ct.z]⟩
  | succ n ih =>
    intro rows us S h hn
    cases h with
    | nil => simp at hn
    | cons h1 h2 h3 h4 h5 =>
      obtain ⟨S1, S2, e1, e2, e3⟩ := ih h4 (by simpa using hn)
      rename_i us' vs Sc T
      have q : (n + 1) * k = us'.length + n * k := by rw [Nat.add_mul, h2]; omega
      refine ⟨_, S2, ?_, ?_, fun x => (by rw [h5, e3, ← Nat.add_assoc])⟩
      · rw [q, List.take_succ_cons, List.take_length_add_append]
        exact .cons h1 h2 h3 e1 fun _ => rfl
      · rw [q, List.drop_succ_cons, List.drop_length_add_append]
        exact e2
theorem RO.drp {rows : List (List AV)} {us : List Value} {S : Ct} {n : Nat} (h : RO w φ κ R 1 rows none us S) (hn : n < rows.length) : ∃ S1 S2, RE w φ κ R 1 (rows.take n) (us.take n) S1 ∧ RE w φ κ R 1 (rows.drop (n + 1)) (us.drop (n + 1)) S2 ∧ ∀ x, S1 x + S2 x ≤ S x := by
  cases h with
  | no he =>
    obtain ⟨S1, S2, e1, e2, e3⟩ := he.split (n := n) (Nat.le_of_lt hn)
    obtain ⟨S3, S4, e4, e5, e6⟩ := e2.split (n := 1) (by simp; omega)
    refine ⟨S1, S4, by simpa using e1, ?_, fun x => (by rw [e3, e6]; omega)⟩
    simp only [List.drop_drop, Nat.mul_one] at e5
    exact e5
/-- one's own map turns -/
theorem SatW.mapTurn (h : SatW X φ κ f Ct.z s a w) {j u g : Nat} {ks : List Value} {rows : List (List AV)} {op : Option (Nat × List AV)} {st : Option (Nat × Nat × Nat)} {es es' : Array MapEntry} {clock clock' : Nat} {ks' us' : List Value} {rows' : List (List AV)} {op' : Option (Nat × List AV)} {st' : Option (Nat × Nat × Nat)} {S S' : Ct}
    (hs : s.b[j]? = some ⟨u, .m ks rows op st⟩) (hκ : κ j u = some (.map (some g))) (hh : w.heap[g]? = some (.map es clock)) (hS : ∀ y, f j y = (if y = g then 1 else 0) + S y)
    (hro : RO w φ κ X.R 1 rows' op' us' S') (hm : MapIn es' clock' ks' us') (hst : StIn κ es' st') (hle : ∀ x, S' x ≤ S x) :
    ∃ f', SatW X φ κ f' Ct.z ⟨s.t, s.b.set j ⟨u, .m ks' rows' op' st'⟩⟩ a (ChangeMaps.setBlock w g (.map es' clock')) := by
  have hjl : j < s.b.length := (List.getElem?_eq_some_iff.1 hs).1
  have hgl : g < w.heap.size := (Array.getElem?_eq_some_iff.1 hh).1
  have hhp : ∀ x, x ≠ g → (ChangeMaps.setBlock w g (.map es' clock')).heap[x]? = w.heap[x]? := fun x hx => by simp [ChangeMaps.setBlock, Array.getElem?_setIfInBounds, Ne.symm hx]
  have hone : ∀ x, f j x ≤ 1 := fun x => by have := sumF_le f x _ j hjl; have := h.one x; omega
  have hR : ∀ x, X.R x → (ChangeMaps.setBlock w g (.map es' clock')).heap[x]? = w.heap[x]? := fun x hx => by
    have h3 := h.not_rd hx
    have h4 := sumF_le f x _ j hjl
    have h5 := hS x
    exact hhp x (by rintro rfl; simp at h5; omega)
  refine ⟨_, h.turn (w' := ChangeMaps.setBlock w g (.map es' clock')) (B := .m ks' rows' op' st') (u := u) (g := fun x => (if x = g then 1 else 0) + S' x) (L' := Ct.z) hs (fun _ _ _ h => h) (fun _ _ _ h => h) (by simp [ChangeMaps.setBlock]) rfl rfl rfl ?_ ?_ (fun x _ => ?_) (fun x hx => ?_) (Nat.le_refl _) (fun _ _ _ h => h) (fun _ _ _ h => h)⟩
  · intro x hx h0
    have := hS x
    exact hhp x (by rintro rfl; simp at this; omega)
  · refine .m hκ (RO.keep hR hro fun x hx => ?_) (by simp [ChangeMaps.setBlock, Array.getElem?_setIfInBounds, hgl]) hm hst fun _ => rfl
    have h5 := hS x
    have h6 := hone x
    have h7 := hle x
    exact hhp x (by rintro rfl; simp at h5; omega)
  · have := hS x; have := hle x; simp only [Ct.z]; omega
  · simp only [Ct.z]
    have h5 := hS x
    have h7 := hle x
    have h8 : f j x = 0 := by
      by_cases h8 : f j x = 0
      · exact h8
      · have := sumF_le f x _ j hjl
        have := h.own x (by omega); omega
    exact ⟨by omega, fun h0 => by omega⟩
theorem RV.one {v : Value} {S : Ct} (h : RV w φ κ R av v S) (hk : av.known = true) (ha : av.nag = true) : v.oneCell' = true := by
  cases h <;> first | assumption | rfl | (cases hk; done) | (cases ha; done)
/-- an entry is written, where there is one -/
theorem ap_mapUpd {T K E n : Nat} {x y z : Operand} {j u : Nat} {ks : List Value} {rows : List (List AV)} {st : Option (Nat × Nat × Nat)} {kv : Value} {i : TI} {sh : List Sh}
    (hg : o.guard = none) (ho : o.op = .mapUpdate T x y z) (hx : aev s x = .hd j u) (hs : s.b[j]? = some ⟨u, .m ks rows none st⟩) (hy : kvl (aev s y) = some kv) (hz : aev s z = av) (hav : av.known = true) (hag : av.nag = true) (hT : tt[T]? = some i) (hk : i.kd = .mp K E) (hf : flatT Try.prog 9 K = some sh) (hkv : isKey Try.prog K sh kv = true) (hks : ∀ k ∈ ks, isKey Try.prog K sh k = true)
    (hn : fnd kv ks = some n) (KK : AP Try.prog X ops Q rest (AS.put ⟨s.t, s.b.set j ⟨u, .m ks (rows.set n (cRow av)) (oRow n av) none⟩⟩ o.dst (.tu []))) : AP Try.prog X ops Q (o :: rest) s :=
  .runU hg (fun X φ κ f a w h => by
    obtain ⟨g, es, clock, us, S, he, hh, hm, hro, hst, hκ, hS⟩ := h.map_ hx hs
    have hyv := (h.ev y).kvl hy
    have hzv := h.evs hz
    have hone := hzv.one hav hag
    have hlen := hro.len
    obtain ⟨l1, l2⟩ := hm.kl
    have hnl := fnd_lt hn
    obtain ⟨k', hk', hkq⟩ := fnd_at hn
    obtain ⟨v0, hv0⟩ : ∃ v0, us[n]? = some v0 := ⟨_, List.getElem?_eq_getElem (by omega)⟩
    obtain ⟨e, hen, hek, hev⟩ := hm.at_ hk' hv0
    have hkk : k' = kv := (kEq_eq hkv (hks k' (List.mem_of_getElem? hk')) hkq).symm
    subst hkk
    have hfE : fndE k' es.toList = some (n, v0) := by simp only [fndE, hm.ky, hn]; simp [hen, hev]
    have e1 := run_findKey_flat (w := w) (es := es.toList) hf hkv (hm.keys hks)
    have hrun : (execOp a.eval o).run Try.prog w = .ok .skip (ChangeMaps.setBlock w g (.map (es.modify n fun e => { e with key := k', val := a.eval z }) clock)) := by
      have : (Instr.mapUpdate T (.map (some g)) k' (a.eval z)).run Try.prog w = .ok () (ChangeMaps.setBlock w g (.map (es.modify n fun e => { e with key := k', val := a.eval z }) clock)) := by
        simp [Instr.mapUpdate, run_underlying (ty_mp hT hk), MapKept.run_getObj_map hh, run_check false hf hkv, e1, hfE, hen, hek, run_stays hkv, MapKept.run_setObj_map _ hh, Result.andThen, ChangeMaps.setBlock]
      simp only [execOp, ho, he, hyv, Sem.run_bind, this]; rfl
    obtain ⟨S1, S2, r1, r2, r3⟩ := hro.drp (n := n) (by omega)
    have hm' := hm.mod hen (a.eval z) (fun e => { e with key := k', val := a.eval z }) (by rw [← hek])
    have hset : us.set n (a.eval z) = us.take n ++ [a.eval z] ++ us.drop (n + 1) := by rw [List.set_eq_take_append_cons_drop, if_pos (by omega)]; simp
    rw [hset] at hm'
    obtain ⟨f', h'⟩ := h.mapTurn hs hκ hh hS (RO.put r1 r2 (by omega) hzv hone _ fun _ => rfl) hm' (st' := none) trivial r3
    exact ⟨_, φ, κ, f', hrun, h'.puts o.dst (RV.tu RC.nil)⟩) KK
/-- an entry is written, where there is none -/
theorem ap_mapNew {T K E : Nat} {x y z : Operand} {j u : Nat} {ks : List Value} {rows : List (List AV)} {st : Option (Nat × Nat × Nat)} {kv : Value} {i : TI} {sh : List Sh}
    (hg : o.guard = none) (ho : o.op = .mapUpdate T x y z) (hx : aev s x = .hd j u) (hs : s.b[j]? = some ⟨u, .m ks rows none st⟩) (hy : kvl (aev s y) = some kv) (hz : aev s z = av) (hav : av.known = true) (hag : av.nag = true) (hT : tt[T]? = some i) (hk : i.kd = .mp K E) (hf : flatT Try.prog 9 K = some sh) (hkv : isKey Try.prog K sh kv = true) (hks : ∀ k ∈ ks, isKey Try.prog K sh k = true)
    (hn : fnd kv ks = none) (KK : AP Try.prog X ops Q rest (AS.put ⟨s.t, s.b.set j ⟨u, .m (ks ++ [kv]) (rows ++ [cRow av]) (oRow rows.length av) none⟩⟩ o.dst (.tu []))) : AP Try.prog X ops Q (o :: rest) s :=
  .runU hg (fun X φ κ f a w h => by
    obtain ⟨g, es, clock, us, S, he, hh, hm, hro, hst, hκ, hS⟩ := h.map_ hx hs
    have hyv := (h.ev y).kvl hy
    have hzv := h.evs hz
    have hone := hzv.one hav hag
    have hlen := hro.len
    obtain ⟨l1, l2⟩ := hm.kl
    have hfE : fndE kv es.toList = none := by simp only [fndE, hm.ky, hn]
    have e1 := run_findKey_flat (w := w) (es := es.toList) hf hkv (hm.keys hks)
    have hrun : (execOp a.eval o).run Try.prog w = .ok .skip (ChangeMaps.setBlock w g (.map (es.push ⟨kv, a.eval z, clock⟩) (clock + 1))) := by
      have : (Instr.mapUpdate T (.map (some g)) kv (a.eval z)).run Try.prog w = .ok () (ChangeMaps.setBlock w g (.map (es.push ⟨kv, a.eval z, clock⟩) (clock + 1))) := by
        simp [Instr.mapUpdate, run_underlying (ty_mp hT hk), MapKept.run_getObj_map hh, run_check false hf hkv, e1, hfE, MapKept.run_setObj_map _ hh, Result.andThen, ChangeMaps.setBlock]
      simp only [execOp, ho, he, hyv, Sem.run_bind, this]; rfl
    have hm' := hm.push kv (a.eval z)
    cases hro with
    | no hre =>
      rw [Nat.mul_one] at hlen
      have e3 := RO.put (rows := rows ++ [cRow av]) (us := us ++ [a.eval z]) (n := rows.length) (av := av) (v := a.eval z) (S := S) (S2 := Ct.z) (w := w) (φ := φ) (κ := κ) (R := X.R) (by simpa [hlen] using hre) (by rw [List.drop_of_length_le (by simp), List.drop_of_length_le (by simp; omega)]; exact .nil) (by simp) hzv hone S fun x => by simp [Ct.z]
      have q1 : (rows ++ [cRow av]).set rows.length (cRow av) = rows ++ [cRow av] := by simp
      have q2 : (us ++ [a.eval z]).take rows.length ++ [a.eval z] ++ (us ++ [a.eval z]).drop (rows.length + 1) = us ++ [a.eval z] := by simp [← hlen]
      rw [q1, q2] at e3
      obtain ⟨f', h'⟩ := h.mapTurn hs hκ hh hS e3 hm' (st' := none) trivial fun x => Nat.le_refl _
      exact ⟨_, φ, κ, f', hrun, h'.puts o.dst (RV.tu RC.nil)⟩) KK
/-- the entry is written by its stamp -/
theorem ap_stamp {T n : Nat} {x y z : Operand} {j u jd vd : Nat} {ks : List Value} {rows : List (List AV)}
    (hg : o.guard = none) (ho : o.op = .entryStore T x y z) (hx : aev s x = .hd j u) (hs : s.b[j]? = some ⟨u, .m ks rows none (some (n, jd, vd))⟩) (hy : aev s y = .hd jd vd) (hz : aev s z = av) (hav : av.known = true) (hag : av.nag = true)
    (KK : AP Try.prog X ops Q rest (AS.put ⟨s.t, s.b.set j ⟨u, .m ks (rows.set n (cRow av)) (oRow n av) none⟩⟩ o.dst (.tu []))) : AP Try.prog X ops Q (o :: rest) s :=
  .runU hg (fun X φ κ f a w h => by
    obtain ⟨g, es, clock, us, S, he, hh, hm, hro, hst, hκ, hS⟩ := h.map_ hx hs
    have hzv := h.evs hz
    have hone := hzv.one hav hag
    obtain ⟨e, hen, hkb⟩ := hst
    have hyv : a.eval y = goInt e.born := by
      have := h.evs hy
      generalize a.eval y = p at this
      cases this with
      | hd hκ' _ => rw [hkb] at hκ'; injection hκ' with e; exact e.symm
    obtain ⟨l1, l2⟩ := hm.kl
    have hlen := hro.len
    have hnl := (Array.getElem?_eq_some_iff.1 hen).1
    have hrun : (execOp a.eval o).run Try.prog w = .ok .skip (ChangeMaps.setBlock w g (.map (es.modify n fun e => { e with val := a.eval z }) clock)) := by
      have hb := hm.born hen
      have : (Instr.entryStore T (.map (some g)) (goInt e.born) (a.eval z)).run Try.prog w = .ok () (ChangeMaps.setBlock w g (.map (es.modify n fun e => { e with val := a.eval z }) clock)) := by
        simp [Instr.entryStore, MapKept.run_getObj_map hh, goInt, go_sem, hb, MapKept.run_setObj_map _ hh, Result.andThen, ChangeMaps.setBlock]
      simp only [execOp, ho, he, hyv, Sem.run_bind, this]; rfl
    obtain ⟨S1, S2, r1, r2, r3⟩ := hro.drp (n := n) (by omega)
    have hm' := hm.mod hen (a.eval z) (fun e => { e with val := a.eval z }) rfl
    have hset : us.set n (a.eval z) = us.take n ++ [a.eval z] ++ us.drop (n + 1) := by rw [List.set_eq_take_append_cons_drop, if_pos (by omega)]; simp
    rw [hset] at hm'
    obtain ⟨f', h'⟩ := h.mapTurn hs hκ hh hS (RO.put r1 r2 (by omega) hzv hone _ fun _ => rfl) hm' (st' := none) trivial r3
    exact ⟨_, φ, κ, f', hrun, h'.puts o.dst (RV.tu RC.nil)⟩) KK
end
end Go.Proofs.Ytmiajenjgcdhgaa

namespace Go.Proofs.Ytmiajenjgcdhgaa
set_option linter.unusedVariables false
set_option linter.unusedSimpArgs false
open Go.RowKit
set_option maxRecDepth 100000
section
variable {X : Cx} {φ φ' : Fi} {κ κ' : Ka} {f : Nat → Ct} {L L' : Ct} {s s' : AS} {a : Act} {w w' : World} {R : Nat → Prop} {o : Oper} {av : AV} {ops : Array Oper} {rest : List Oper} {Q : Exit → AS → Prop}
/-- what an array with an open row stands for -/
theorem SatW.opn_ (h : SatW X φ κ f L s a w) {j u k n : Nat} {e : TypeId} {rows : List (List AV)} {c : List AV} (hs : s.b[j]? = some ⟨u, .f e k rows n c⟩) :
    ∃ g cap cur us1 cs us2 S1 S2, κ j u = some (.slice (some ⟨g, 0, none⟩) rows.length cap) ∧ n < rows.length ∧ RE w φ κ X.R k (rows.take n) us1 S1 ∧ RC w φ κ X.R c cs Ct.z ∧ cs.length = k ∧ (∀ u ∈ cs, u.oneCell' = true) ∧ RE w φ κ X.R k (rows.drop (n + 1)) us2 S2 ∧
      Mk w g cur e ∧ rows.length ≤ cap ∧ cap ≤ maxLen ∧ cur.size = cap * k ∧ cur.toList.take (rows.length * k) = us1 ++ cs ++ us2 ∧ (∀ x, f j x = (if x = g then 1 else 0) + (S1 x + S2 x)) ∧ us1.length = n * k := by
  have h2 := h.sl j _ hs
  generalize f j = F at h2
  cases h2 with
  | @f _ _ _ _ _ g cap cur us S' _ hκ hro hmk hle hm hsz htk hS =>
    cases hro with
    | yes hn e1 e2 e3 e4 e6 e7 e8 =>
      have l1 := e1.length
      rw [List.length_take, Nat.min_eq_left (Nat.le_of_lt hn)] at l1
      exact ⟨g, cap, cur, _, _, _, _, _, hκ, hn, e1, e2, e3, e4, e6, hmk, hle, hm, hsz, by rw [htk, e7], fun x => by rw [hS, e8], l1⟩
theorem pq_index_f {T e e' : Nat} {x y : Operand} {b u k n : Nat} {rows : List (List AV)} {c : List AV} {i ie : TI} {kk : IntKind} {j : Int} (ho : o.op = .indexAddr T x y) (hx : aev s x = .hd b u) (hs : s.b[b]? = some ⟨u, .f e' k rows n c⟩) (hy : aev s y = .sc (.int kk j)) (hT : tt[T]? = some i) (hk : i.kd = .sl e) (he : tt[e]? = some ie) (hsz : ie.size = k)
    (h0 : 0 ≤ j) (hj : j < rows.length) : Pq Try.prog X s o (.ep b u k j.toNat 0) := .of_run fun X φ κ f a w h => by
  obtain ⟨g, cap, cur, us1, cs, us2, S1, S2, hκ, _⟩ := h.opn_ hs
  have h1 := h.evs hx
  have h2 := h.evc hy
  generalize hp : a.eval x = p at h1
  cases h1 with
  | hd hκ' _ =>
    rw [hκ] at hκ'; injection hκ' with e; subst e
    refine ⟨_, .ep hκ, fun w' _ => ?_⟩
    simp only [execOp, ho, hp, h2, Sem.run_bind, run_index hT hk he h0 hj w']; simp [go_sem, hsz]
theorem pq_len_f {T e e' k b u n : Nat} {x : Operand} {rows : List (List AV)} {c : List AV} {i : TI} (ho : o.op = .call { callee := .builtin .len, args := #[x], argTypes := #[T] }) (hx : aev s x = .hd b u) (hs : s.b[b]? = some ⟨u, .f e' k rows n c⟩) (hT : tt[T]? = some i) (hk : i.kd = .sl e) : Pq Try.prog X s o (.sc (.int .i64 rows.length)) := .of_run fun X φ κ f a w h => by
  obtain ⟨g, cap, cur, us1, cs, us2, S1, S2, hκ, _⟩ := h.opn_ hs
  have h1 := h.evs hx
  generalize hp : a.eval x = p at h1
  cases h1 with
  | hd hκ' _ =>
    rw [hκ] at hκ'; injection hκ' with e; subst e
    exact ⟨_, .sc rfl, fun w' _ => run_len (ty := 0) ho fun ty => by rw [hp]; exact len_ty (tys := #[T]) hT hk ty w'⟩
/-- the open row's cells -/
theorem SatW.elemf (h : SatW X φ κ f L s a w) {x : Operand} {b u k n off : Nat} {e : TypeId} {rows : List (List AV)} {c : List AV} (hx : aev s x = .ep b u k n off) (hs : s.b[b]? = some ⟨u, .f e k rows n c⟩) :
    ∃ g cs, a.eval x = .pointer (some ⟨g, n * k + off, none⟩) ∧ RC w φ κ X.R c cs Ct.z ∧ cs.length = k ∧ (∀ u ∈ cs, u.oneCell' = true) ∧ ∀ w', Below w.heap.size w w' → w'.rangeAt g (n * k) cs := by
  obtain ⟨g, cap, cur, us1, cs, us2, S1, S2, hκ, hn, e1, e2, e3, e4, e6, hmk, hle, hm, hsz, htk, hS, l1⟩ := h.opn_ hs
  have h1 := h.evs hx
  generalize hp : a.eval x = p at h1
  cases h1 with
  | ep hκ' =>
    rw [hκ] at hκ'; injection hκ' with e; injection e with e; injection e with e; injection e with e; subst e
    refine ⟨g, cs, rfl, e2, e3, e4, fun w' hb j v hv => ?_⟩
    rw [(Mk.keep (hb.block g hmk.lt) hmk).cell (n * k + j)]
    have hjl : j < cs.length := (List.getElem?_eq_some_iff.1 hv).1
    have h5 : (cur.toList.take (rows.length * k))[n * k + j]? = some v := by
      rw [htk, List.append_assoc, List.getElem?_append_right (by omega), l1, Nat.add_sub_cancel_left, List.getElem?_append_left hjl]; exact hv
    rw [List.getElem?_take] at h5
    split at h5
    · simpa using h5
    · cases h5
theorem pq_load1_f {T : TypeId} {x : Operand} {b u k n off : Nat} {e : TypeId} {rows : List (List AV)} {c : List AV} {ti : TI} (ho : o.op = .load T x) (hx : aev s x = .ep b u k n off) (hs : s.b[b]? = some ⟨u, .f e k rows n c⟩)
    (hT : tt[T]? = some ti) (hk : rowK ti.kd = false) (hl : c[off]? = some av) : Pq Try.prog X s o av := .of_run fun X φ κ f a w h => by
  obtain ⟨d, hd, hr, _⟩ := ty_flat hT hk
  obtain ⟨g, cs, he, hrc, hkl, _, hrange⟩ := h.elemf hx hs
  obtain ⟨v, hv, hrv⟩ := hrc.at_ hl
  refine ⟨v, hrv, fun w' hb => ?_⟩
  simp only [execOp, ho, he, Sem.run_bind, run_loadAt_flat w' hd hr (hrange w' hb off v hv)]; simp [go_sem]
theorem pq_loadN_f {T : TypeId} {x : Operand} {b u k n off : Nat} {e : TypeId} {rows : List (List AV)} {c : List AV} {ti : TI} (ho : o.op = .load T x) (hx : aev s x = .ep b u k n off) (hs : s.b[b]? = some ⟨u, .f e k rows n c⟩)
    (hT : tt[T]? = some ti) (hk : rowK ti.kd = true) (hl : Nat.ble (off + ti.size) c.length = true) : Pq Try.prog X s o (.ag ((c.drop off).take ti.size)) := .of_run fun X φ κ f a w h => by
  have hl := Nat.le_of_ble_eq_true hl
  obtain ⟨d, hd, hr, hi⟩ := ty_row hT hk
  obtain ⟨g, cs, he, hrc, hkl, h1, hrange⟩ := h.elemf hx hs
  have hlen := hrc.length
  refine ⟨_, .ag (hrc.drop_ off ti.size) (fun v hv => h1 v (List.mem_of_mem_drop (List.mem_of_mem_take hv))), fun w' hb => ?_⟩
  have hr2 : w'.rangeAt g (n * k + off) ((cs.drop off).take ti.size) := fun j v hv => by
    rw [List.getElem?_take] at hv
    split at hv
    · rw [List.getElem?_drop] at hv
      have := hrange w' hb _ _ hv
      rwa [show n * k + off + j = n * k + (off + j) by omega]
    · cases hv
  simp only [execOp, ho, he, Sem.run_bind, run_loadAt_mid w' g (n * k + off) T _ d hr2 hd hr (by rw [hi]; simp; omega)]; simp [go_sem]
theorem spl_append_mid {α : Type} : ∀ (r a b c : List α) (o : Nat), o + r.length ≤ b.length → spl (a ++ b ++ c) (a.length + o) r = a ++ spl b o r ++ c
  | [], _, _, _, _, _ => rfl
  | x :: r, a, b, c, o, h => by
    simp only [spl]
    have h1 : (a ++ b ++ c).set (a.length + o) x = a ++ b.set o x ++ c := by
      rw [List.append_assoc, List.set_append_right _ _ (by omega), Nat.add_sub_cancel_left, List.set_append_left _ _ (by simp at h; omega), List.append_assoc]
    rw [h1, Nat.add_assoc, spl_append_mid r a (b.set o x) c (o + 1) (by simp at h ⊢; omega)]
theorem Mk.spl {g : Nat} {cur : Array Value} {e : TypeId} (h : Mk w g cur e) : ∀ (us : List Value) (o : Nat), Mk (w.setCells g o us) g (spl cur.toList o us).toArray e := by
  intro us o
  induction us generalizing w cur o with
  | nil => simpa [Go.Proofs.Ytmiajenjgcdhgaa.spl, World.setCells] using h
  | cons u us ih =>
    have h1 : Mk (w.setCell ⟨g, o, none⟩ u) g (cur.setIfInBounds o u) e := by
      obtain ⟨z, hz1, hz2⟩ := h
      exact ⟨z, by simp [World.setCell, Array.getElem?_modify, hz1], by simpa using hz2⟩
    have := ih h1 (o + 1)
    simpa [Go.Proofs.Ytmiajenjgcdhgaa.spl, World.setCells] using this
/-- a store into the open row -/
theorem ap_storeF {T k n : Nat} {e : TypeId} {x y : Operand} {b u off : Nat} {rows : List (List AV)} {c : List AV} {ti : TI} (hg : o.guard = none) (ho : o.op = .store T x y) (hx : aev s x = .ep b u k n off) (hs : s.b[b]? = some ⟨u, .f e k rows n c⟩) (hy : aev s y = av) (hkn : av.known = true)
    (hT : tt[T]? = some ti) (hn : av.cells.length = ti.size) (hl : Nat.ble (off + ti.size) c.length = true)
    (K : AP Try.prog X ops Q rest (AS.put ⟨s.t, s.b.set b ⟨u, .f e k rows n (spl c off av.cells)⟩⟩ o.dst (.tu []))) : AP Try.prog X ops Q (o :: rest) s :=
  .runU hg (fun X φ κ f a w h => by
    have hl := Nat.le_of_ble_eq_true hl
    obtain ⟨hr, h1⟩ := (h.evs hy).cells_ hkn
    obtain ⟨g, cap, cur, us1, cs, us2, S1, S2, hκ, hnl, e1, e2, e3, e4, e6, hmk, hle, hm, hsz, htk, hS, l1⟩ := h.opn_ hs
    obtain ⟨g', cs', he, _, _, _, _⟩ := h.elemf hx hs
    have hgg : g' = g := by
      have h2 := h.evs hx
      rw [he] at h2
      cases h2 with
      | ep hκ' => rw [hκ] at hκ'; injection hκ' with e; injection e with e; injection e with e; injection e with e; exact e.symm
    subst hgg
    obtain ⟨d, j, hd, hj, _, hjs, _⟩ := TI.parts (ty hT)
    have hbl : b < s.b.length := (List.getElem?_eq_some_iff.1 hs).1
    have hgl := hmk.lt
    have hlen := hr.length
    have hclen := e2.length
    have hpos : n * k + k ≤ rows.length * k := by
      have : (n + 1) * k ≤ rows.length * k := Nat.mul_le_mul_right k hnl
      rw [Nat.add_mul] at this; omega
    have hpos2 : rows.length * k ≤ cur.size := by rw [hsz]; exact Nat.mul_le_mul_right k hle
    have hth : w.there g' (n * k + off) ti.size := fun i hi => by
      refine ⟨?_, hmk.frozen (by omega)⟩
      rw [hmk.cell]
      simp; omega
    have hrun := run_storeAny (P := Try.prog) (T := T) (b := g') (off := n * k + off) (v := a.eval y) w (n := ti.size) (by rw [hj]; simp [hjs]) (by rw [← hn, ← hlen]; simp) h1 hth
    have hrun' : (execOp a.eval o).run Try.prog w = .ok .skip (w.setCells g' (n * k + off) (a.eval y).cells.toList) := by
      simp only [execOp, ho, he, Sem.run_bind, hrun]; rfl
    have hone : ∀ x, f b x ≤ 1 := fun x => by have := sumF_le f x _ b hbl; have := h.one x; omega
    generalize hU : (a.eval y).cells.toList = us at hr h1 hlen hrun'
    have hmk' := hmk.spl us (n * k + off)
    have hblk : ∀ x, x ≠ g' → (w.setCells g' (n * k + off) us).heap[x]? = w.heap[x]? := fun x hx => heap_setCells_ne g' _ _ w x hx
    have hR : ∀ x, X.R x → (w.setCells g' (n * k + off) us).heap[x]? = w.heap[x]? := fun x hx => by
      have h3 := h.not_rd hx
      have h4 := sumF_le f x _ b hbl
      have h5 := hS x
      exact hblk x (by rintro rfl; simp at h5; omega)
    have hSk : ∀ x, S1 x + S2 x ≠ 0 → (w.setCells g' (n * k + off) us).heap[x]? = w.heap[x]? := fun x hx => by
      have h5 := hS x
      have h6 := hone x
      exact hblk x (by rintro rfl; simp at h5; omega)
    have hol : off + us.length ≤ cs.length := by omega
    have htk' : ((spl cur.toList (n * k + off) us).toArray.toList).take (rows.length * k) = us1 ++ spl cs off us ++ us2 := by
      have h7 : cur.toList = us1 ++ cs ++ (us2 ++ cur.toList.drop (rows.length * k)) := by
        have := List.take_append_drop (rows.length * k) cur.toList
        rw [htk] at this
        rw [← List.append_assoc]; exact this.symm
      have h8 : (us1 ++ cs ++ us2).length = rows.length * k := by rw [← htk, List.length_take]; simp; omega
      have h9 : spl cur.toList (n * k + off) us = us1 ++ spl cs off us ++ (us2 ++ cur.toList.drop (rows.length * k)) := by
        conv => lhs; rw [h7]
        rw [← l1]
        exact spl_append_mid us us1 cs _ off hol
      have h10 : (us1 ++ spl cs off us ++ us2).length = rows.length * k := by rw [← h8]; simp [spl_length]
      show (spl cur.toList (n * k + off) us).take (rows.length * k) = _
      rw [h9, ← List.append_assoc, ← h10, List.take_left]
    refine ⟨_, φ, κ, updF f b (fun x => (if x = g' then 1 else 0) + (S1 x + S2 x)), hrun', SatW.puts ?_ o.dst (RV.tu RC.nil)⟩
    refine h.turn (w' := w.setCells g' (n * k + off) us) hs (fun _ _ _ h => h) (fun _ _ _ h => h) (by rw [size_setCells]; exact Nat.le_refl _) (os_setCells' g' _ _ w) (tape_setCells g' _ _ w) (out_setCells g' _ _ w) ?_ (.f hκ (.yes hnl (RE.keep hR e1 fun x hx => hSk x (by omega)) (RC.keep hR (e2.spl_ hr) fun x hx => absurd rfl hx) (by rw [spl_length]; exact e3) (spl_one e4 h1) (RE.keep hR e6 fun x hx => hSk x (by omega)) rfl fun _ => rfl) hmk' hle hm (by simpa [spl_length] using hsz) htk' fun _ => rfl) (g := fun x => (if x = g' then 1 else 0) + (S1 x + S2 x)) (L' := Ct.z) ?_ ?_ (Nat.le_refl _) (fun _ _ _ h => h) (fun _ _ _ h => h)
    · intro x hx h0
      have := hS x
      exact hblk x (by rintro rfl; simp at this; omega)
    · intro x hx; have := hS x; simp only [Ct.z]; omega
    · intro x hx; simp only [Ct.z]
      have h8 : f b x = 0 := by
        by_cases h8 : f b x = 0
        · exact h8
        · have := sumF_le f x _ b hbl
          have := h.own x (by omega); omega
      have := hS x
      exact ⟨by omega, fun h0 => by omega⟩) K
def delK {α : Type} (l : List α) : Option Nat → List α
  | some n => l.eraseIdx n
  | none => l
/-- taken out of a map -/
theorem run_del {x y : Operand} {tys : Array TypeId} {a : Act} {v : Value} (ho : o.op = .call { callee := .builtin .delete, args := #[x, y], argTypes := tys }) (h : ∀ ty, (Builtin.delete_ tys ty #[a.eval x, a.eval y]).run Try.prog w = .ok v w') :
    (execOp a.eval o).run Try.prog w = .ok (.value v) w' := by
  simp only [execOp, ho, resolve, invoke, builtin, Sem.run_bind, Sem.run_pure, Result.andThen_ok, List.map_toArray, List.map_cons, List.map_nil, h]
theorem ap_del {T K E : Nat} {x y : Operand} {j u : Nat} {ks : List Value} {rows : List (List AV)} {st : Option (Nat × Nat × Nat)} {kv : Value} {i : TI} {sh : List Sh} {r : Option Nat}
    (hg : o.guard = none) (ho : o.op = .call { callee := .builtin .delete, args := #[x, y], argTypes := #[T, K] }) (hx : aev s x = .hd j u) (hs : s.b[j]? = some ⟨u, .m ks rows none st⟩) (hy : kvl (aev s y) = some kv) (hT : tt[T]? = some i) (hk : i.kd = .mp K E) (hf : flatT Try.prog 9 K = some sh) (hkv : isKey Try.prog K sh kv = true) (hks : ∀ k ∈ ks, isKey Try.prog K sh k = true)
    (hn : fnd kv ks = r) (KK : AP Try.prog X ops Q rest (AS.put ⟨s.t, s.b.set j ⟨u, .m (delK ks r) (delK rows r) none none⟩⟩ o.dst (.tu []))) : AP Try.prog X ops Q (o :: rest) s :=
  .run hg (fun X φ κ f a w h => by
    obtain ⟨g, es, clock, us, S, he, hh, hm, hro, hst, hκ, hS⟩ := h.map_ hx hs
    have hyv := (h.ev y).kvl hy
    have hlen := hro.len
    obtain ⟨l1, l2⟩ := hm.kl
    have e1 := run_findKey_flat (w := w) (es := es.toList) hf hkv (hm.keys hks)
    cases r with
    | none =>
      have hfE : fndE kv es.toList = none := by simp only [fndE, hm.ky, hn]
      have hrun : (execOp a.eval o).run Try.prog w = .ok (.value (.tuple #[])) (ChangeMaps.setBlock w g (.map es clock)) := run_del ho fun ty => by
        rw [he, hyv]
        simp [Builtin.delete_, run_underlying (ty_mp hT hk), MapKept.run_getObj_map hh, run_check es.isEmpty hf hkv, e1, hfE, MapKept.run_setObj_map _ hh, Result.andThen, ChangeMaps.setBlock]
      obtain ⟨f', h'⟩ := h.mapTurn hs hκ hh hS hro hm (st' := none) trivial fun x => Nat.le_refl _
      exact ⟨_, _, φ, κ, f', hrun, h'.puts o.dst (RV.tu RC.nil)⟩
    | some n =>
      have hnl := fnd_lt hn
      have hfE : ∃ v, fndE kv es.toList = some (n, v) := by simp only [fndE, hm.ky, hn]; exact ⟨_, rfl⟩
      obtain ⟨v0, hfE⟩ := hfE
      have hrun : (execOp a.eval o).run Try.prog w = .ok (.value (.tuple #[])) (ChangeMaps.setBlock w g (.map (es.eraseIdxIfInBounds n) clock)) := run_del ho fun ty => by
        rw [he, hyv]
        simp [Builtin.delete_, run_underlying (ty_mp hT hk), MapKept.run_getObj_map hh, run_check es.isEmpty hf hkv, e1, hfE, MapKept.run_setObj_map _ hh, Result.andThen, ChangeMaps.setBlock]
      obtain ⟨S1, S2, r1, r2, r3⟩ := hro.drp (n := n) (by omega)
      have q := r1.append (U := fun x => S1 x + S2 x) r2 fun _ => rfl
      rw [← List.eraseIdx_eq_take_drop_succ, ← List.eraseIdx_eq_take_drop_succ] at q
      obtain ⟨f', h'⟩ := h.mapTurn hs hκ hh hS (.no q) (hm.erase n) (st' := none) trivial r3
      exact ⟨_, _, φ, κ, f', hrun, h'.puts o.dst (RV.tu RC.nil)⟩) KK
/-- a map of one's own isn't nil -/
theorem run_eq_map {P : Program} {T K E : TypeId} (hT : P.underlying T = some (.map K E)) (p : Option Nat) (w : World) : (Op.equal T (.map p) (.map none)).run P w = .ok p.isNone w := by
  have key : ∀ d, (Op.equalIn (d + 1) T (.map p) (.map none)).run P w = .ok p.isNone w := fun d => by
    cases p <;> simp [Op.equalIn, run_underlying hT]
  exact key 9999
theorem run_bin_map {op : BinOp} {T T' K E : TypeId} {x y : Operand} {a : Act} {p : Option Nat} {r : Bool} (hT : Try.prog.underlying T = some (.map K E)) (ho : o.op = .binOp op T x y T') (hx : a.eval x = .map p) (hy : a.eval y = .map none) (hr : nilB op p.isNone = some r) (w : World) :
    (execOp a.eval o).run Try.prog w = .ok (.value (.bool r)) w := by
  unfold nilB at hr
  cases op <;> simp only [Option.some.injEq, reduceCtorEq] at hr <;> subst hr <;> simp only [execOp, ho, hx, hy] <;>
    simp [eqGuard, binOp, run_eq_map hT, go_sem]
theorem pq_mnil {op : BinOp} {T T' K E : TypeId} {x y : Operand} {j u : Nat} {ks : List Value} {rows : List (List AV)} {p : Option (Nat × List AV)} {st : Option (Nat × Nat × Nat)} {i : TI} {r : Bool} (ho : o.op = .binOp op T x y T') (hx : aev s x = .hd j u) (hs : s.b[j]? = some ⟨u, .m ks rows p st⟩) (hy : aev s y = .sc (.map none)) (hr : nilB op false = some r) (hT : tt[T]? = some i) (hk : i.kd = .mp K E) : Pq Try.prog X s o (.sc (.bool r)) := .of_run fun X φ κ f a w h => by
  obtain ⟨g, es, clock, us, S, he, _⟩ := h.map_ hx hs
  exact ⟨_, .sc rfl, fun w' _ => run_bin_map (ty_mp hT hk) ho he (h.evc hy) hr w'⟩
theorem pq_mnn {op : BinOp} {T T' K E : TypeId} {x y : Operand} {i : TI} {r : Bool} (ho : o.op = .binOp op T x y T') (hx : aev s x = .sc (.map none)) (hy : aev s y = .sc (.map none)) (hr : nilB op true = some r) (hT : tt[T]? = some i) (hk : i.kd = .mp K E) : Pq Try.prog X s o (.sc (.bool r)) := .of_run fun X φ κ f a w h =>
  ⟨_, .sc rfl, fun w' _ => run_bin_map (ty_mp hT hk) ho (h.evc hx) (h.evc hy) hr w'⟩
end
theorem rowAt_open {rows : List (List AV)} {n : Nat} {a : AV} {l : List AV} : rowAt rows (some (n, a :: l)) n = some a := by
  have : Nat.beq n n = true := Nat.beq_refl n
  simp [rowAt, this]
section
variable {X : Cx} {s : AS} {ops : Array Oper} {rest : List Oper} {Q : Exit → AS → Prop} {av : AV} {d : Option Nat} {ty : Nat} {pos : String} {aft : Array Edge} {T K E n : Nat} {x y z : Operand} {j u : Nat} {ks : List Value} {rows : List (List AV)} {op : Option (Nat × List AV)} {st : Option (Nat × Nat × Nat)} {kv : Value} {i ie : TI} {sh : List Sh} {c : ZC}
theorem AP.LK (KK : AP Try.prog X ops Q rest (s.put d av)) (hx : aev s x = .hd j u := by exact rfl) (hs : s.b[j]? = some ⟨u, .m ks rows op st⟩ := by exact rfl) (hy : kvl (aev s y) = some kv := by exact rfl) (hT : tt[T]? = some i := by exact rfl) (hk : i.kd = .mp K E := by exact rfl) (hks : ∀ k ∈ ks, isKey Try.prog K sh k = true := by with_reducible assumption) (hf : flatT Try.prog 9 K = some sh := by kernel_rfl) (hkv : isKey Try.prog K sh kv = true := by kernel_rfl)
    (hn : fnd kv ks = some n := by assumption) (hr : rowAt rows op n = some av := by first | assumption | exact rowAt_open | exact rfl) : AP Try.prog X ops Q (⟨d, .lookup T x y false, ty, pos, aft, none⟩ :: rest) s := AP.pure rfl (pq_look (ok := false) rfl hx hs hy hT hk hf hkv hks hn hr) KK
theorem AP.LK2 (KK : AP Try.prog X ops Q rest (s.put d (.tu [av, .sc (.bool true)]))) (hx : aev s x = .hd j u := by exact rfl) (hs : s.b[j]? = some ⟨u, .m ks rows op st⟩ := by exact rfl) (hy : kvl (aev s y) = some kv := by exact rfl) (hT : tt[T]? = some i := by exact rfl) (hk : i.kd = .mp K E := by exact rfl) (hks : ∀ k ∈ ks, isKey Try.prog K sh k = true := by with_reducible assumption) (hf : flatT Try.prog 9 K = some sh := by kernel_rfl) (hkv : isKey Try.prog K sh kv = true := by kernel_rfl)
    (hn : fnd kv ks = some n := by assumption) (hr : rowAt rows op n = some av := by first | assumption | exact rowAt_open | exact rfl) : AP Try.prog X ops Q (⟨d, .lookup T x y true, ty, pos, aft, none⟩ :: rest) s := AP.pure rfl (pq_look (ok := true) rfl hx hs hy hT hk hf hkv hks hn hr) KK
theorem AP.LN (KK : AP Try.prog X ops Q rest (s.put d (.sc c.val))) (hx : aev s x = .hd j u := by exact rfl) (hs : s.b[j]? = some ⟨u, .m ks rows op st⟩ := by exact rfl) (hy : kvl (aev s y) = some kv := by exact rfl) (hT : tt[T]? = some i := by exact rfl) (hk : i.kd = .mp K E := by exact rfl) (hE : tt[E]? = some ie := by exact rfl) (hz : ie.zero = some [c] := by exact rfl) (hrk : rowK ie.kd = false := by exact rfl) (hks : ∀ k ∈ ks, isKey Try.prog K sh k = true := by with_reducible assumption) (hf : flatT Try.prog 9 K = some sh := by kernel_rfl) (hkv : isKey Try.prog K sh kv = true := by kernel_rfl)
    (hn : fnd kv ks = none := by assumption) : AP Try.prog X ops Q (⟨d, .lookup T x y false, ty, pos, aft, none⟩ :: rest) s := AP.pure rfl (pq_lookN (ok := false) rfl hx hs hy hT hk hE hz hrk hf hkv hks hn) KK
theorem AP.LN2 (KK : AP Try.prog X ops Q rest (s.put d (.tu [.sc c.val, .sc (.bool false)]))) (hx : aev s x = .hd j u := by exact rfl) (hs : s.b[j]? = some ⟨u, .m ks rows op st⟩ := by exact rfl) (hy : kvl (aev s y) = some kv := by exact rfl) (hT : tt[T]? = some i := by exact rfl) (hk : i.kd = .mp K E := by exact rfl) (hE : tt[E]? = some ie := by exact rfl) (hz : ie.zero = some [c] := by exact rfl) (hrk : rowK ie.kd = false := by exact rfl) (hks : ∀ k ∈ ks, isKey Try.prog K sh k = true := by with_reducible assumption) (hf : flatT Try.prog 9 K = some sh := by kernel_rfl) (hkv : isKey Try.prog K sh kv = true := by kernel_rfl)
    (hn : fnd kv ks = none := by assumption) : AP Try.prog X ops Q (⟨d, .lookup T x y true, ty, pos, aft, none⟩ :: rest) s := AP.pure rfl (pq_lookN (ok := true) rfl hx hs hy hT hk hE hz hrk hf hkv hks hn) KK
theorem AP.MM (KK : AP Try.prog X ops Q rest (AS.put ⟨s.t, (newS s.b (.m [] [] none none)).2⟩ d (.hd (newS s.b (.m [] [] none none)).1.1 (newS s.b (.m [] [] none none)).1.2))) : AP Try.prog X ops Q (⟨d, .makeMap T none, ty, pos, aft, none⟩ :: rest) s := ap_makeMap rfl rfl KK
theorem AP.MU (KK : AP Try.prog X ops Q rest (AS.put ⟨s.t, s.b.set j ⟨u, .m ks (rows.set n (cRow av)) (oRow n av) none⟩⟩ d (.tu []))) (hx : aev s x = .hd j u := by exact rfl) (hs : s.b[j]? = some ⟨u, .m ks rows none st⟩ := by exact rfl) (hy : kvl (aev s y) = some kv := by exact rfl) (hz : aev s z = av := by exact rfl) (hav : av.known = true := by exact rfl) (hag : av.nag = true := by exact rfl) (hT : tt[T]? = some i := by exact rfl) (hk : i.kd = .mp K E := by exact rfl) (hks : ∀ k ∈ ks, isKey Try.prog K sh k = true := by with_reducible assumption) (hf : flatT Try.prog 9 K = some sh := by kernel_rfl) (hkv : isKey Try.prog K sh kv = true := by kernel_rfl)
    (hn : fnd kv ks = some n := by assumption) : AP Try.prog X ops Q (⟨d, .mapUpdate T x y z, ty, pos, aft, none⟩ :: rest) s := ap_mapUpd rfl rfl hx hs hy hz hav hag hT hk hf hkv hks hn KK
theorem AP.MN (KK : AP Try.prog X ops Q rest (AS.put ⟨s.t, s.b.set j ⟨u, .m (ks ++ [kv]) (rows ++ [cRow av]) (oRow rows.length av) none⟩⟩ d (.tu []))) (hx : aev s x = .hd j u := by exact rfl) (hs : s.b[j]? = some ⟨u, .m ks rows none st⟩ := by exact rfl) (hy : kvl (aev s y) = some kv := by exact rfl) (hz : aev s z = av := by exact rfl) (hav : av.known = true := by exact rfl) (hag : av.nag = true := by exact rfl) (hT : tt[T]? = some i := by exact rfl) (hk : i.kd = .mp K E := by exact rfl) (hks : ∀ k ∈ ks, isKey Try.prog K sh k = true := by with_reducible assumption) (hf : flatT Try.prog 9 K = some sh := by kernel_rfl) (hkv : isKey Try.prog K sh kv = true := by kernel_rfl)
    (hn : fnd kv ks = none := by assumption) : AP Try.prog X ops Q (⟨d, .mapUpdate T x y z, ty, pos, aft, none⟩ :: rest) s := ap_mapNew rfl rfl hx hs hy hz hav hag hT hk hf hkv hks hn KK
theorem AP.MS {jd vd : Nat} (KK : AP Try.prog X ops Q rest (AS.put ⟨s.t, s.b.set j ⟨u, .m ks (rows.set n (cRow av)) (oRow n av) none⟩⟩ d (.tu []))) (hx : aev s x = .hd j u := by exact rfl) (hs : s.b[j]? = some ⟨u, .m ks rows none (some (n, jd, vd))⟩ := by exact rfl) (hy : aev s y = .hd jd vd := by exact rfl) (hz : aev s z = av := by exact rfl) (hav : av.known = true := by exact rfl) (hag : av.nag = true := by exact rfl) : AP Try.prog X ops Q (⟨d, .entryStore T x y z, ty, pos, aft, none⟩ :: rest) s := ap_stamp rfl rfl hx hs hy hz hav hag KK
theorem AP.MD {r : Option Nat} (KK : AP Try.prog X ops Q rest (AS.put ⟨s.t, s.b.set j ⟨u, .m (delK ks r) (delK rows r) none none⟩⟩ d (.tu []))) (hx : aev s x = .hd j u := by exact rfl) (hs : s.b[j]? = some ⟨u, .m ks rows none st⟩ := by exact rfl) (hy : kvl (aev s y) = some kv := by exact rfl) (hT : tt[T]? = some i := by exact rfl) (hk : i.kd = .mp K E := by exact rfl) (hks : ∀ k ∈ ks, isKey Try.prog K sh k = true := by with_reducible assumption) (hf : flatT Try.prog 9 K = some sh := by kernel_rfl) (hkv : isKey Try.prog K sh kv = true := by kernel_rfl)
    (hn : fnd kv ks = r := by assumption) : AP Try.prog X ops Q (⟨d, .call { callee := .builtin .delete, args := #[x, y], argTypes := #[T, K] }, ty, pos, aft, none⟩ :: rest) s := ap_del rfl rfl hx hs hy hT hk hf hkv hks hn KK
theorem AP.MZ {bo : BinOp} {T' : TypeId} {r : Bool} (KK : AP Try.prog X ops Q rest (s.put d (.sc (.bool r)))) (hx : aev s x = .hd j u := by exact rfl) (hs : s.b[j]? = some ⟨u, .m ks rows op st⟩ := by exact rfl) (hy : aev s y = .sc (.map none) := by exact rfl) (hr : nilB bo false = some r := by exact rfl) (hT : tt[T]? = some i := by exact rfl) (hk : i.kd = .mp K E := by exact rfl) : AP Try.prog X ops Q (⟨d, .binOp bo T x y T', ty, pos, aft, none⟩ :: rest) s := AP.pure rfl (pq_mnil rfl hx hs hy hr hT hk) KK
theorem AP.MZ0 {bo : BinOp} {T' : TypeId} {r : Bool} (KK : AP Try.prog X ops Q rest (s.put d (.sc (.bool r)))) (hx : aev s x = .sc (.map none) := by exact rfl) (hy : aev s y = .sc (.map none) := by exact rfl) (hr : nilB bo true = some r := by exact rfl) (hT : tt[T]? = some i := by exact rfl) (hk : i.kd = .mp K E := by exact rfl) : AP Try.prog X ops Q (⟨d, .binOp bo T x y T', ty, pos, aft, none⟩ :: rest) s := AP.pure rfl (pq_mnn rfl hx hy hr hT hk) KK
/-! open rows -/
variable {e e' k off b : Nat} {cl : List AV} {ti : TI} {kk : IntKind} {jj : Int}
theorem AP.FI (KK : AP Try.prog X ops Q rest (s.put d (.ep b u k jj.toNat 0))) (hx : aev s x = .hd b u := by exact rfl) (hs : s.b[b]? = some ⟨u, .f e' k rows n cl⟩ := by exact rfl) (hy : aev s y = .sc (.int kk jj) := by exact rfl) (hT : tt[T]? = some i := by exact rfl) (hk : i.kd = .sl e := by exact rfl) (he : tt[e]? = some ie := by exact rfl) (hsz : ie.size = k := by exact rfl) (h0 : 0 ≤ jj ∧ jj < rows.length := by ((repeat' (with_reducible apply And.intro)) <;> (first | exact True.intro | exact rfl | omega | decide | (simp; omega) | (simp; done) | assumption | exact .inl rfl | (refine .inr ?_; simp; try omega)))) : AP Try.prog X ops Q (⟨d, .indexAddr T x y, ty, pos, aft, none⟩ :: rest) s := AP.pure rfl (pq_index_f rfl hx hs hy hT hk he hsz h0.1 h0.2) KK
theorem AP.FL (KK : AP Try.prog X ops Q rest (s.put d (.sc (.int .i64 rows.length)))) (hx : aev s x = .hd b u := by exact rfl) (hs : s.b[b]? = some ⟨u, .f e' k rows n cl⟩ := by exact rfl) (hT : tt[T]? = some i := by exact rfl) (hk : i.kd = .sl e := by exact rfl) : AP Try.prog X ops Q (⟨d, .call { callee := .builtin .len, args := #[x], argTypes := #[T] }, ty, pos, aft, none⟩ :: rest) s := AP.pure rfl (pq_len_f rfl hx hs hT hk) KK
theorem AP.F1 (KK : AP Try.prog X ops Q rest (s.put d av)) (hx : aev s x = .ep b u k n off := by exact rfl) (hs : s.b[b]? = some ⟨u, .f e k rows n cl⟩ := by exact rfl) (hT : tt[T]? = some ti := by exact rfl) (hk : rowK ti.kd = false := by exact rfl) (hl : cl[off]? = some av := by exact rfl) : AP Try.prog X ops Q (⟨d, .load T x, ty, pos, aft, none⟩ :: rest) s := AP.pure rfl (pq_load1_f rfl hx hs hT hk hl) KK
theorem AP.FN (KK : AP Try.prog X ops Q rest (s.put d (.ag ((cl.drop off).take ti.size)))) (hx : aev s x = .ep b u k n off := by exact rfl) (hs : s.b[b]? = some ⟨u, .f e k rows n cl⟩ := by exact rfl) (hT : tt[T]? = some ti := by exact rfl) (hk : rowK ti.kd = true := by exact rfl) (hl : Nat.ble (off + ti.size) cl.length = true := by exact rfl) : AP Try.prog X ops Q (⟨d, .load T x, ty, pos, aft, none⟩ :: rest) s := AP.pure rfl (pq_loadN_f rfl hx hs hT hk hl) KK
theorem AP.FT (KK : AP Try.prog X ops Q rest (AS.put ⟨s.t, s.b.set b ⟨u, .f e k rows n (spl cl off av.cells)⟩⟩ d (.tu []))) (hx : aev s x = .ep b u k n off := by exact rfl) (hs : s.b[b]? = some ⟨u, .f e k rows n cl⟩ := by exact rfl) (hy : aev s y = av := by exact rfl) (hkn : av.known = true := by exact rfl) (hT : tt[T]? = some ti := by exact rfl) (hn : av.cells.length = ti.size := by exact rfl) (hl : Nat.ble (off + ti.size) cl.length = true := by exact rfl) : AP Try.prog X ops Q (⟨d, .store T x y, ty, pos, aft, none⟩ :: rest) s := ap_storeF rfl rfl hx hs hy hkn hT hn hl KK
/-- a slice out of owned things -/
theorem AP.BO {parts : Array (Nat × Operand)} {z : List ZC} {fl fl' : List AV} {b' : List Sl} {q : List (List AV)} (KK : AP Try.prog X ops Q rest (AS.put ⟨s.t, (newS b' (.r e k q)).2⟩ d (.hd (newS b' (.r e k q)).1.1 (newS b' (.r e k q)).1.2))) (hT : tt[T]? = some i := by exact rfl) (hk : i.kd = .sl e := by exact rfl) (he : tt[e]? = some ie := by exact rfl) (hz : ie.zero = some z := by exact rfl) (hsz : ie.size = k := by exact rfl)
    (h1 : Nat.ble 1 k = true := by exact rfl) (h2 : Nat.ble (n * k) 1000000 = true := by exact rfl) (h3 : parts.toList.all (fun p => (aev s p.2).known && ((aev s p.2).cells.length == k) && Nat.ble (p.1 * k + k) (n * k)) = true := by exact rfl) (hfl : bldA s k parts.toList (zrow z n) = fl := by exact rfl) (hcl : clsO 60 s.b fl = some (fl', b') := by exact rfl) (hq : chunks k n fl' = q := by exact rfl) : AP Try.prog X ops Q (⟨d, .buildSlice T n parts, ty, pos, aft, none⟩ :: rest) s :=
  ap_buildSlice rfl rfl hT hk he hz hsz h1 h2 h3 hfl (clsO_of hcl) hq KK
end
/-! in drawn regions -/
section
variable {s : AS} {ops : Array Oper} {all : List Oper} {K : AS → Prop} {acc : List Fp} {l : List Oper} {av : AV} {op : Op} {ty : Nat} {pos : String} {aft : Array Edge} {g : Option (Nat × Bool)} {d : Nat} {T : List Nat} {F : List Nat} {b2 : List Sl} {r : Bool}
theorem DW.RM (hk : DW Try.prog ops all K (⟨T, some d, F, false⟩ :: acc) l ⟨s.t.set d av, s.b⟩) (hg : gdS ops s g = some r := by exact rfl) (hT : opTs ops ⟨some d, op, ty, pos, aft, g⟩ = T := by (simp only [ft, nm, Nat.reduceAdd, Nat.reduceBEq, List.getElem?_cons_zero, List.getElem?_cons_succ]; exact rfl)) (hF : ftF 0 s op = F := by (simp only [ft, nm, Nat.reduceAdd, Nat.reduceBEq, List.getElem?_cons_zero, List.getElem?_cons_succ]; exact rfl)) (h : ∀ X V, AP Try.prog X ops (fun e s' => e = .normal ∧ s' = ⟨(msT T 0 s.t).set d av, msB F V 0 s.b⟩) [⟨some d, op, ty, pos, aft, g⟩] ⟨msT T 0 s.t, msB F V 0 s.b⟩ := by (intro X V; simp only [ft, nm, Nat.reduceAdd, Nat.reduceBEq]; (try (refine AP.Y ?_; dsimp only)); (first | refine AP.LK ?_ | refine AP.LN ?_ | refine AP.LK2 ?_ | refine AP.LN2 ?_ | refine AP.FI ?_ | refine AP.FL ?_ | refine AP.F1 ?_ | refine AP.FN ?_ | refine AP.MZ ?_ | refine AP.MZ0 ?_); (try simp only [nx, Nat.reduceAdd, Nat.reduceSub, BEq.rfl]); refine AP.nil ?_; first | exact ⟨trivial, rfl⟩ | exact ⟨rfl, rfl⟩)) (hy : nyF F 0 s.b = true := by exact rfl) :
    DW Try.prog ops all K acc (⟨some d, op, ty, pos, aft, g⟩ :: l) s := DW.rd 0 hT hF h hk hy
theorem DW.WM (hk : DW Try.prog ops all K (⟨T, some d, F, true⟩ :: acc) l ⟨s.t.set d av, b2⟩) (hg : gdS ops s g = some r := by exact rfl) (hT : opTs ops ⟨some d, op, ty, pos, aft, g⟩ = T := by (simp only [ft, nm, Nat.reduceAdd, Nat.reduceBEq, List.getElem?_cons_zero, List.getElem?_cons_succ]; exact rfl)) (hF : ftF 1 s op = F := by (simp only [ft, nm, Nat.reduceAdd, Nat.reduceBEq, List.getElem?_cons_zero, List.getElem?_cons_succ]; exact rfl)) (h : ∀ X V, AP Try.prog X ops (fun e s' => e = .normal ∧ s'.t = (msT T 0 s.t).set d av ∧ Mg F V 0 s.b s'.b b2) [⟨some d, op, ty, pos, aft, g⟩] ⟨msT T 0 s.t, msB F V 0 s.b⟩ := by (intro X V; simp only [ft, nm, Nat.reduceAdd, Nat.reduceBEq]; (try (refine AP.Y ?_; dsimp only)); (first | refine AP.MM ?_ | refine AP.MD ?_ | refine AP.BO ?_); (try simp only [nx, Nat.reduceAdd, Nat.reduceSub, BEq.rfl]); refine AP.nil ?_; (first | refine ⟨trivial, rfl, ?_⟩ | refine ⟨rfl, rfl, ?_⟩); (repeat' (first | exact Mg.nil | apply Mg.keep rfl | apply Mg.take rfl)); all_goals fail))
    (hb : (∃ V : Nat → Nat, ∃ b1, Mg F V 0 s.b b1 b2) := by (refine Exists.intro (fun _ => 0) ?_; apply Exists.intro; (repeat' (first | exact Mg.nil | apply Mg.keep rfl | apply Mg.take rfl)); all_goals fail)) (hy : nyF F 0 s.b = true := by exact rfl) (hy2 : nyF F 0 b2 = true := by exact rfl) : DW Try.prog ops all K acc (⟨some d, op, ty, pos, aft, g⟩ :: l) s := DW.st 1 hT hF h hb hk hy hy2
theorem DW.WM' (hk : DW Try.prog ops all K (⟨T, none, F, true⟩ :: acc) l ⟨s.t, b2⟩) (hg : gdS ops s g = some r := by exact rfl) (hT : opTs ops ⟨none, op, ty, pos, aft, g⟩ = T := by (simp only [ft, nm, Nat.reduceAdd, Nat.reduceBEq, List.getElem?_cons_zero, List.getElem?_cons_succ]; exact rfl)) (hF : ftF 1 s op = F := by (simp only [ft, nm, Nat.reduceAdd, Nat.reduceBEq, List.getElem?_cons_zero, List.getElem?_cons_succ]; exact rfl)) (h : ∀ X V, AP Try.prog X ops (fun e s' => e = .normal ∧ s'.t = msT T 0 s.t ∧ Mg F V 0 s.b s'.b b2) [⟨none, op, ty, pos, aft, g⟩] ⟨msT T 0 s.t, msB F V 0 s.b⟩ := by (intro X V; simp only [ft, nm, Nat.reduceAdd, Nat.reduceBEq]; (try (refine AP.Y ?_; dsimp only)); (first | refine AP.MU ?_ | refine AP.MN ?_ | refine AP.MS ?_ | refine AP.MD ?_ | refine AP.FT ?_); (try simp only [nx, Nat.reduceAdd, Nat.reduceSub, BEq.rfl]); refine AP.nil ?_; (first | refine ⟨trivial, rfl, ?_⟩ | refine ⟨rfl, rfl, ?_⟩); (repeat' (first | exact Mg.nil | apply Mg.keep rfl | apply Mg.take rfl)); all_goals fail))
    (hb : (∃ V : Nat → Nat, ∃ b1, Mg F V 0 s.b b1 b2) := by (refine Exists.intro (fun _ => 0) ?_; apply Exists.intro; (repeat' (first | exact Mg.nil | apply Mg.keep rfl | apply Mg.take rfl)); all_goals fail)) (hy : nyF F 0 s.b = true := by exact rfl) (hy2 : nyF F 0 b2 = true := by exact rfl) : DW Try.prog ops all K acc (⟨none, op, ty, pos, aft, g⟩ :: l) s := DW.stN 1 hT hF h hb hk hy hy2
end
end Go.Proofs.Ytmiajenjgcdhgaa

namespace Go.Proofs.Ytmiajenjgcdhgaa
set_option linter.unusedVariables false
set_option linter.unusedSimpArgs false
open Go.RowKit
set_option maxRecDepth 100000
section
variable {v : Value} {k n b u o i : Nat} {r : List (List AV)} {α : Type} {l : List α}
theorem cr_sc : cRow (.sc v) = [.sc v] := rfl
theorem cr_sl : cRow (.sl none k r) = [.sl none k r] := rfl
theorem cr_bp : cRow (.bp b u o) = [.de] := rfl
theorem cr_hd : cRow (.hd b u) = [.de] := rfl
theorem ow_sc : oRow n (.sc v) = none := rfl
theorem ow_sl : oRow n (.sl none k r) = none := rfl
theorem ow_bp : oRow n (.bp b u o) = some (n, [.bp b u o]) := rfl
theorem ow_hd : oRow n (.hd b u) = some (n, [.hd b u]) := rfl
theorem cp_sc : (AV.sc v).cp = .sc v := rfl
theorem cp_sl : (AV.sl none k r).cp = .sl none k r := rfl
theorem cp_bp : (AV.bp b u o).cp = .bp b u o := rfl
theorem dk_some : delK l (some n) = l.eraseIdx n := rfl
theorem dk_none : delK l none = l := rfl
end
theorem mx : type_of% (And.intro @cr_sc (And.intro @cr_sl (And.intro @cr_bp (And.intro @cr_hd (And.intro @ow_sc (And.intro @ow_sl (And.intro @ow_bp (And.intro @ow_hd (And.intro @cp_sc (And.intro @cp_sl (And.intro @cp_bp (And.intro @dk_some @dk_none)))))))))))) := And.intro @cr_sc (And.intro @cr_sl (And.intro @cr_bp (And.intro @cr_hd (And.intro @ow_sc (And.intro @ow_sl (And.intro @ow_bp (And.intro @ow_hd (And.intro @cp_sc (And.intro @cp_sl (And.intro @cp_bp (And.intro @dk_some @dk_none)))))))))))
theorem AP.ST {G G' : Prop} (K : G') (h : G' → G := by (intro k; first | exact AP.S k | exact AP.E k | exact AP.T k | exact AP.F k | exact AP.F0 k | exact AP.A k | exact AP.AB 0 k | exact AP.AB 1 k | exact AP.AL k | exact AP.LB k | exact AP.TB k | exact AP.IX k | exact AP.SF k | exact AP.SV k | exact AP.CV k | exact AP.CO k | exact AP.FV k | exact AP.LK k | exact AP.LN k | exact AP.LK2 k | exact AP.LN2 k | exact AP.MM k | exact AP.MU k | exact AP.MN k | exact AP.MS k | exact AP.MD k | exact AP.MZ k | exact AP.MZ0 k | exact AP.FI k | exact AP.FL k | exact AP.F1 k | exact AP.FN k | exact AP.FT k | fail)) : G := h K
theorem DW.ST {G G' : Prop} (K : G') (h : G' → G := by (intro k; first | exact DW.R k | exact DW.R' k | exact DW.W k | exact DW.W' k | exact DW.RA k | exact DW.A 0 k | exact DW.A 1 k | exact DW.A 2 k | exact DW.A' 0 k | exact DW.A' 2 k | exact DW.RX k | exact DW.WX k | exact DW.WX' k | exact DW.RM k | exact DW.WM k | exact DW.WM' k | fail)) : G := h K
/-- a contract over what may be read serves for what is owned: it is given up -/
theorem AC.own {P : Program} {fn : Nat} {args : List AV} {bs : List Bx} {Q : AV → List Bx → Prop} (h : AC P fn (roC args) bs Q) : AC P fn args bs Q := by
  refine ⟨h.1, fun w φ κ R vs gs Sa Sb hr hrx hφ hφn hκ hone hown hR => ?_⟩
  have h2 := h.2 w φ κ (fun b => R b ∨ Sa b ≠ 0) vs gs Ct.z Sb (RC.ro_ hr) (RXs.mono (fun _ h => .inl h) hrx) hφ hφn hκ (fun x => by have := hone x; simp only [Ct.z]; omega) (fun x hx => hown x (by simp only [Ct.z] at hx; omega)) (fun x hx => by
    rcases hx with hx | hx
    · have := hR x hx; simp only [Ct.z]; exact ⟨this.1, by omega⟩
    · have h1 := hone x; have := hown x (by omega); simp only [Ct.z]; exact ⟨this, by omega⟩)
  refine h2.mono ?_
  rintro e w' ⟨v, r, bs', gs', Sr, Sb', φ', F, h1, h3, h4, h5, h6, h7, h8, h9, h10, h11⟩
  have hup : ∀ x, ((R x ∨ Sa x ≠ 0) ∨ F x) → (R x ∨ (Sa x ≠ 0 ∨ F x)) := fun x hx => by
    rcases hx with (hx | hx) | hx
    · exact .inl hx
    · exact .inr (.inl hx)
    · exact .inr (.inr hx)
  refine ⟨v, r, bs', gs', Sr, Sb', φ', fun x => Sa x ≠ 0 ∨ F x, h1, h3, RV.hist (fun _ _ _ h => h) (fun _ _ _ h => h) hup h4, RXs.mono hup h5, h6, h7, h8, fun x hx => ?_, fun x hx => ?_, ⟨h11.os, h11.tape, h11.output, h11.size, fun b hb hS => h11.block b hb (by simp only [Ct.z]; omega)⟩⟩
  · rcases hx with hx | hx | hx
    · have := h9 x (.inl hx); simp only [Ct.z] at this; exact ⟨this.1, by omega⟩
    · have h12 := hown x (by omega); have h13 := h11.size; exact ⟨by omega, .inl (by omega)⟩
    · have := h9 x (.inr hx); simp only [Ct.z] at this; exact ⟨this.1, by omega⟩
  · rcases hx with hx | hx
    · have h12 := hown x (by omega)
      have h13 := hone x
      by_cases h14 : Sr x + Sb' x = 0
      · exact h14
      · have := h9 x (.inl h14); simp only [Ct.z] at this; omega
    · exact h10 x hx
end Go.Proofs.Ytmiajenjgcdhgaa
