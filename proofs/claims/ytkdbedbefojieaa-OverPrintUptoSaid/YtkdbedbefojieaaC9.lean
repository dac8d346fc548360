/-
  Configurations that may be, members' places; going over; the law's examples.
-/
import Derived.Test.YtkdbedbefojieaaC2
namespace Go.Proofs.Ytkdbedbefojieaa
set_option linter.unusedVariables false
set_option linter.unusedSimpArgs false
set_option maxHeartbeats 8000000
open Go.RowKit
set_option maxRecDepth 100000
def thereS (n : Int) : Bool := decide (0 ≤ n) && decide (n < 5)
def atG : Nat → List Member → Int → Int
  | _, [], _ => -1
  | k, m :: l, n => if m.node = n then k else atG (k + 1) l n
theorem there_ac (n : Int) : AC Try.prog 44 [I n] [] (fun v bs => v = B (thereS n) ∧ bs = []) := by
  refine AC.enter Try.func44 rfl rfl Try.ntmps44 (fl1_all rfl) (by (repeat' (first | exact Bk.nil | apply Bk.cons rfl rfl rfl))) ?_
  intro X
  simp only [nm, newS, plc, spl, bldA, bldS, zrow, chunks, ZC.val, Nat.reduceAdd, Nat.reduceSub, BEq.rfl]
  repeat' (first
    | ((first
    | ((with_reducible apply AP.k_any); first
             | (refine AP.s1 rfl ?_ ?_; focus ((repeat' (with_reducible apply And.intro)) <;> (first | exact True.intro | exact rfl | omega | (simp; omega) | (simp; done) | assumption)))
             | (refine AP.gyes rfl rfl rfl ?_; dsimp only) | refine AP.gno rfl rfl rfl rfl ?_ | refine AP.gund rfl rfl rfl ?_ | (refine AP.gsplit rfl rfl rfl (fun hg => ?_) (fun hg => ?_))
      )
    
    
    )
      <;> (try simp only [nm, newS, plc, spl, bldA, bldS, zrow, chunks, ZC.val, Nat.reduceAdd, Nat.reduceSub, BEq.rfl]))
    | ((with_reducible apply AP.k_nil); first
        | (refine AP.nil (hQ' _ ?_); clear hQ' Q')
        | refine AP.nil ?_)
    | ((with_reducible apply CP.k_reg); refine cp_regG fun Q' hQ' => ?_)
      | (with_reducible apply CP.k_reg1; refine cp_region ?_)
      | ((with_reducible apply CP.k_cond); first
          | refine cp_condT rfl ?_
          | refine cp_condF rfl ?_
          | refine cp_cond rfl (fun hc => ?_) (fun hc => ?_))
      | (with_reducible first | refine cp_block ?_ | refine cp_exit ?_ | refine cp_ret ?_ | refine cp_skip ?_ | refine cp_seq ?_ | refine inB_hit ?_ | refine inB_n ?_ | refine inB_r ?_ | refine thenQ_n ?_ | refine thenQ_r ?_ | refine thenQ_e ?_ | refine cpn_succ ?_)
      | (refine inB_miss rfl ?_))
  · apply RetQ.mk (ks := []) (by first | exact .inr rfl | exact .inl rfl)
    case hl => (repeat' (first | exact ResL.nil | apply ResL.cons (Res1.row rfl rfl rfl rfl rfl) | apply ResL.cons (Res1.flat rfl rfl rfl rfl rfl) | apply ResL.cons (Res1.tmp (by (try simp only [List.getD_cons_succ, List.getD_cons_zero]); exact rfl))))
    case hc => (repeat' (first | exact ClsC.nil | exact ClsL.nil | apply ClsC.nl | apply ClsC.leaf rfl | apply ClsC.hd rfl | apply ClsC.fn | apply ClsR.tu | apply ClsL.cons | apply ClsV.ag | exact ClsV.bp | exact ClsV.one (ClsC.leaf rfl ClsC.nil) | exact ClsV.one (ClsC.nl ClsC.nil) | exact ClsV.one (ClsC.hd rfl ClsC.nil) | apply ClsR.one))
    case hr => (repeat' (first | exact RnV.leaf rfl | exact RnC.nil | apply RnC.cons | apply RnV.ag | apply RnV.tu | exact RnV.bp rfl))
    case ho => (repeat' (first | exact Out.nil | apply Out.cons rfl | exact ClsC.nil | apply ClsC.nl | apply ClsC.leaf rfl | apply ClsC.hd rfl | apply ClsC.fn | apply ClsC.fz rfl (ro_B _) | apply ClsC.fz rfl (ro_M _) | apply ClsC.fz rfl (ro_E _ _) | apply ClsC.fz rfl rfl))
    case hk => exact hks_of rfl
    case hq => (try dsimp only [resV, List.getD_cons_succ, List.getD_cons_zero]); exact ⟨by simp at hg; simp [thereS]; omega, rfl⟩
  · apply RetQ.mk (ks := []) (by first | exact .inr rfl | exact .inl rfl)
    case hl => (repeat' (first | exact ResL.nil | apply ResL.cons (Res1.row rfl rfl rfl rfl rfl) | apply ResL.cons (Res1.flat rfl rfl rfl rfl rfl) | apply ResL.cons (Res1.tmp (by (try simp only [List.getD_cons_succ, List.getD_cons_zero]); exact rfl))))
    case hc => (repeat' (first | exact ClsC.nil | exact ClsL.nil | apply ClsC.nl | apply ClsC.leaf rfl | apply ClsC.hd rfl | apply ClsC.fn | apply ClsR.tu | apply ClsL.cons | apply ClsV.ag | exact ClsV.bp | exact ClsV.one (ClsC.leaf rfl ClsC.nil) | exact ClsV.one (ClsC.nl ClsC.nil) | exact ClsV.one (ClsC.hd rfl ClsC.nil) | apply ClsR.one))
    case hr => (repeat' (first | exact RnV.leaf rfl | exact RnC.nil | apply RnC.cons | apply RnV.ag | apply RnV.tu | exact RnV.bp rfl))
    case ho => (repeat' (first | exact Out.nil | apply Out.cons rfl | exact ClsC.nil | apply ClsC.nl | apply ClsC.leaf rfl | apply ClsC.hd rfl | apply ClsC.fn | apply ClsC.fz rfl (ro_B _) | apply ClsC.fz rfl (ro_M _) | apply ClsC.fz rfl (ro_E _ _) | apply ClsC.fz rfl rfl))
    case hk => exact hks_of rfl
    case hq => (try dsimp only [resV, List.getD_cons_succ, List.getD_cons_zero]); exact ⟨by simp at hg; simp [thereS]; omega, rfl⟩
theorem at1_ac (m : Member) (n : Int) : AC Try.prog 85 [.ag (eM m), .bp 0 0 0] [.c 3 [I n]] (fun v bs => v = B (decide (m.node = n)) ∧ bs = [.c 3 [I n]]) := by
  refine AC.enter Try.func85 rfl rfl Try.ntmps85 (fl1_all rfl) (by (repeat' (first | exact Bk.nil | apply Bk.cons rfl rfl rfl))) ?_
  intro X
  simp only [nm, newS, plc, spl, bldA, bldS, zrow, chunks, ZC.val, Nat.reduceAdd, Nat.reduceSub, BEq.rfl]
  repeat' (first
    | ((first
    | ((with_reducible apply AP.k_any); first
             | (refine AP.s1 rfl ?_ ?_; focus ((repeat' (with_reducible apply And.intro)) <;> (first | exact True.intro | exact rfl | omega | (simp; omega) | (simp; done) | assumption)))
             | refine ap_box rfl rfl rfl rfl ?_
      )
    
    
    )
      <;> (try simp only [nm, newS, plc, spl, bldA, bldS, zrow, chunks, ZC.val, Nat.reduceAdd, Nat.reduceSub, BEq.rfl]))
    | ((with_reducible apply AP.k_nil); first
        | (refine AP.nil (hQ' _ ?_); clear hQ' Q')
        | refine AP.nil ?_)
    | ((with_reducible apply CP.k_reg); refine cp_regG fun Q' hQ' => ?_)
      | (with_reducible apply CP.k_reg1; refine cp_region ?_)
      | ((with_reducible apply CP.k_cond); first
          | refine cp_condT rfl ?_
          | refine cp_condF rfl ?_
          | refine cp_cond rfl (fun hc => ?_) (fun hc => ?_))
      | (with_reducible first | refine cp_block ?_ | refine cp_exit ?_ | refine cp_ret ?_ | refine cp_skip ?_ | refine cp_seq ?_ | refine inB_hit ?_ | refine inB_n ?_ | refine inB_r ?_ | refine thenQ_n ?_ | refine thenQ_r ?_ | refine thenQ_e ?_ | refine cpn_succ ?_)
      | (refine inB_miss rfl ?_))
  apply RetQ.mk (ks := [(0, 0)]) (by first | exact .inr rfl | exact .inl rfl)
  case hl => (repeat' (first | exact ResL.nil | apply ResL.cons (Res1.row rfl rfl rfl rfl rfl) | apply ResL.cons (Res1.flat rfl rfl rfl rfl rfl) | apply ResL.cons (Res1.tmp (by (try simp only [List.getD_cons_succ, List.getD_cons_zero]); exact rfl))))
  case hc => (repeat' (first | exact ClsC.nil | exact ClsL.nil | apply ClsC.nl | apply ClsC.leaf rfl | apply ClsC.hd rfl | apply ClsC.fn | apply ClsR.tu | apply ClsL.cons | apply ClsV.ag | exact ClsV.bp | exact ClsV.one (ClsC.leaf rfl ClsC.nil) | exact ClsV.one (ClsC.nl ClsC.nil) | exact ClsV.one (ClsC.hd rfl ClsC.nil) | apply ClsR.one))
  case hr => (repeat' (first | exact RnV.leaf rfl | exact RnC.nil | apply RnC.cons | apply RnV.ag | apply RnV.tu | exact RnV.bp rfl))
  case ho => (repeat' (first | exact Out.nil | apply Out.cons rfl | exact ClsC.nil | apply ClsC.nl | apply ClsC.leaf rfl | apply ClsC.hd rfl | apply ClsC.fn | apply ClsC.fz rfl (ro_B _) | apply ClsC.fz rfl (ro_M _) | apply ClsC.fz rfl (ro_E _ _) | apply ClsC.fz rfl rfl))
  case hk => exact hks_of rfl
  case hq => (try dsimp only [resV, List.getD_cons_succ, List.getD_cons_zero]); exact ⟨rfl, rfl⟩
theorem index_ac (l : List Member) (n : Int) (hl : l.length ≤ 100000000) : AC Try.prog 84 [ms none l, .fn 85 [.bp 0 0 0]] [.c 3 [I n]] (fun v bs => v = I (atG 0 l n) ∧ bs = [.c 3 [I n]]) := by
  refine AC.enter Try.func84 rfl rfl Try.ntmps84 (fl1_all rfl) (by (repeat' (first | exact Bk.nil | apply Bk.cons rfl rfl rfl))) ?_
  intro X
  simp only [nm, newS, plc, spl, bldA, bldS, zrow, chunks, ZC.val, Nat.reduceAdd, Nat.reduceSub, BEq.rfl]
  repeat' (first
    | ((first
    | ((with_reducible apply AP.k_any); first
             | (refine AP.s1 rfl ?_ ?_; focus ((repeat' (with_reducible apply And.intro)) <;> (first | exact True.intro | exact rfl | omega | (simp; omega) | (simp; done) | assumption)))
             | (refine AP.s2 rfl ?_ ?_; focus ((repeat' (with_reducible apply And.intro)) <;> (first | exact True.intro | exact rfl | omega | (simp; omega) | (simp; done) | assumption)))
             | refine AP.pure rfl (pq_load1_rp rfl rfl rfl rfl (by (first | (refine ⟨?_, ?_⟩; assumption; rfl) | exact ⟨mapAt (by (first | omega | (simp; omega) | (simp; done) | assumption)), rfl⟩ | exact ⟨rfl, rfl⟩))) ?_ | refine AP.pure rfl (pq_loadN_rp rfl rfl rfl rfl (by (first | (refine ⟨?_, ?_⟩; assumption; rfl) | exact ⟨mapAt (by (first | omega | (simp; omega) | (simp; done) | assumption)), rfl⟩ | exact ⟨rfl, rfl⟩))) ?_ | refine AP.pure rfl (pq_load1_ep rfl rfl rfl rfl rfl (by (first | (refine ⟨?_, ?_⟩; assumption; rfl) | exact ⟨mapAt (by (first | omega | (simp; omega) | (simp; done) | assumption)), rfl⟩ | exact ⟨rfl, rfl⟩))) ?_ | refine AP.pure rfl (pq_loadN_ep rfl rfl rfl rfl rfl (by (first | (refine ⟨?_, ?_⟩; assumption; rfl) | exact ⟨mapAt (by (first | omega | (simp; omega) | (simp; done) | assumption)), rfl⟩ | exact ⟨rfl, rfl⟩))) ?_
      )
    
    
    )
      <;> (try simp only [nm, newS, plc, spl, bldA, bldS, zrow, chunks, ZC.val, Nat.reduceAdd, Nat.reduceSub, BEq.rfl]))
    | ((with_reducible apply AP.k_nil); first
        | (refine AP.nil (hQ' _ ?_); clear hQ' Q')
        | refine AP.nil ?_)
    | ((with_reducible apply CP.k_reg); refine cp_regG fun Q' hQ' => ?_)
      | (with_reducible apply CP.k_reg1; refine cp_region ?_)
      | ((with_reducible apply CP.k_cond); first
          | refine cp_condT rfl ?_
          | refine cp_condF rfl ?_
          | refine cp_cond rfl (fun hc => ?_) (fun hc => ?_))
      | (with_reducible first | refine cp_block ?_ | refine cp_exit ?_ | refine cp_ret ?_ | refine cp_skip ?_ | refine cp_seq ?_ | refine inB_hit ?_ | refine inB_n ?_ | refine inB_r ?_ | refine thenQ_n ?_ | refine thenQ_r ?_ | refine thenQ_e ?_ | refine cpn_succ ?_)
      | (refine inB_miss rfl ?_))
  refine cp_loopS [5, 9, 10, 11, 12, 13, 14, 15, 16, 17, 18] (fun k => l.length - k) (fun k => k ≤ l.length ∧ atG 0 l n = atG k (l.drop k) n) (fun k => [(8, I k)]) (fun _ => []) 0 ⟨by omega, rfl⟩ (by (refine gh_wk ?_; (try simp only [setT, deT, setB, List.set_cons_succ, List.set_cons_zero]); (refine ⟨?_, ?_⟩ <;> (try dsimp only) <;> (repeat' (first | exact Wk.nil | exact WkB.nil | apply Wk.same | apply Wk.de | apply Wk.nl | apply WkB.same | apply WkB.drop))))) ?_
  rintro k ⟨hk, he⟩
  simp only [setT, deT, setB, List.set_cons_succ, List.set_cons_zero]
  by_cases hlt : k < l.length
  · have hw : IntKind.i64.wrap ((k : Int) + 1) = ((k + 1 : Nat) : Int) := wrap_i64 (by omega) (by omega)
    rw [List.drop_eq_getElem_cons hlt, atG] at he
    repeat' (first
      | ((first
      | ((with_reducible apply AP.k_any); first
               | (refine AP.s1 rfl ?_ ?_; focus ((repeat' (with_reducible apply And.intro)) <;> (first | exact True.intro | exact rfl | omega | (simp; omega) | (simp; done) | assumption)))
               | (refine AP.s2 rfl ?_ ?_; focus ((repeat' (with_reducible apply And.intro)) <;> (first | exact True.intro | exact rfl | omega | (simp; omega) | (simp; done) | assumption)))
               | refine AP.pure rfl (pq_load1_rp rfl rfl rfl rfl (by (first | (refine ⟨?_, ?_⟩; assumption; rfl) | exact ⟨mapAt (by (first | omega | (simp; omega) | (simp; done) | assumption)), rfl⟩ | exact ⟨rfl, rfl⟩))) ?_ | refine AP.pure rfl (pq_loadN_rp rfl rfl rfl rfl (by (first | (refine ⟨?_, ?_⟩; assumption; rfl) | exact ⟨mapAt (by (first | omega | (simp; omega) | (simp; done) | assumption)), rfl⟩ | exact ⟨rfl, rfl⟩))) ?_ | refine AP.pure rfl (pq_load1_ep rfl rfl rfl rfl rfl (by (first | (refine ⟨?_, ?_⟩; assumption; rfl) | exact ⟨mapAt (by (first | omega | (simp; omega) | (simp; done) | assumption)), rfl⟩ | exact ⟨rfl, rfl⟩))) ?_ | refine AP.pure rfl (pq_loadN_ep rfl rfl rfl rfl rfl (by (first | (refine ⟨?_, ?_⟩; assumption; rfl) | exact ⟨mapAt (by (first | omega | (simp; omega) | (simp; done) | assumption)), rfl⟩ | exact ⟨rfl, rfl⟩))) ?_
        )
      | ((with_reducible apply AP.k_any); refine ap_callB 0 [(0, 0)] rfl rfl (fn := 85) rfl (at1_ac l[k] n) (by (repeat' (first | exact PasC.nil | apply PasC.nil | apply PasC.cons | apply PasV.leaf rfl | apply PasV.nl | apply PasV.bp rfl | apply PasV.lend rfl rfl rfl | apply PasV.lend rfl rfl (ro_B _) | apply PasV.lend rfl rfl (ro_M _) | apply PasV.lend rfl rfl (ro_E _ _) | apply PasV.lend rfl rfl (ro_I _) | apply PasV.mv rfl | apply PasV.ag | apply PasV.fn | exact PasV.fs | apply PasV.any))) (by (repeat' (first | exact Out.nil | apply Out.cons rfl | exact ClsC.nil | apply ClsC.nl | apply ClsC.leaf rfl | apply ClsC.hd rfl | apply ClsC.fn | apply ClsC.fz rfl (ro_B _) | apply ClsC.fz rfl (ro_M _) | apply ClsC.fz rfl (ro_E _ _) | apply ClsC.fz rfl rfl))) rfl (by (repeat' (first | exact Bk.nil | apply Bk.cons rfl rfl rfl))) (by (repeat' (first | exact RnV.leaf rfl | exact RnC.nil | apply RnC.cons | apply RnV.ag | apply RnV.tu | exact RnV.bp rfl))) rfl ?_)
      
      )
        <;> (try simp only [nm, newS, plc, spl, bldA, bldS, zrow, chunks, ZC.val, Nat.reduceAdd, Nat.reduceSub, BEq.rfl]))
      | ((with_reducible apply AP.k_nil); first
          | (refine AP.nil (hQ' _ ?_); clear hQ' Q')
          | refine AP.nil ?_)
      | ((with_reducible apply CP.k_reg); refine cp_regG fun Q' hQ' => ?_)
        | (with_reducible apply CP.k_reg1; refine cp_region ?_)
        | ((with_reducible apply CP.k_cond); first
            | refine cp_condT rfl ?_
            | refine cp_condF rfl ?_
            | refine cp_cond rfl (fun hc => ?_) (fun hc => ?_))
        | (with_reducible first | refine cp_block ?_ | refine cp_exit ?_ | refine cp_ret ?_ | refine cp_skip ?_ | refine cp_seq ?_ | refine inB_hit ?_ | refine inB_n ?_ | refine inB_r ?_ | refine thenQ_n ?_ | refine thenQ_r ?_ | refine thenQ_e ?_ | refine cpn_succ ?_)
        | (refine inB_miss rfl ?_))
    · apply RetQ.mk (ks := [(0, 0)]) (by first | exact .inr rfl | exact .inl rfl)
      case hl => (repeat' (first | exact ResL.nil | apply ResL.cons (Res1.row rfl rfl rfl rfl rfl) | apply ResL.cons (Res1.flat rfl rfl rfl rfl rfl) | apply ResL.cons (Res1.tmp (by (try simp only [List.getD_cons_succ, List.getD_cons_zero]); exact rfl))))
      case hc => (repeat' (first | exact ClsC.nil | exact ClsL.nil | apply ClsC.nl | apply ClsC.leaf rfl | apply ClsC.hd rfl | apply ClsC.fn | apply ClsR.tu | apply ClsL.cons | apply ClsV.ag | exact ClsV.bp | exact ClsV.one (ClsC.leaf rfl ClsC.nil) | exact ClsV.one (ClsC.nl ClsC.nil) | exact ClsV.one (ClsC.hd rfl ClsC.nil) | apply ClsR.one))
      case hr => (repeat' (first | exact RnV.leaf rfl | exact RnC.nil | apply RnC.cons | apply RnV.ag | apply RnV.tu | exact RnV.bp rfl))
      case ho => (repeat' (first | exact Out.nil | apply Out.cons rfl | exact ClsC.nil | apply ClsC.nl | apply ClsC.leaf rfl | apply ClsC.hd rfl | apply ClsC.fn | apply ClsC.fz rfl (ro_B _) | apply ClsC.fz rfl (ro_M _) | apply ClsC.fz rfl (ro_E _ _) | apply ClsC.fz rfl rfl))
      case hk => exact hks_of rfl
      case hq => (try dsimp only [resV, List.getD_cons_succ, List.getD_cons_zero]); exact ⟨by rw [he, if_pos (by simpa using hc)], rfl⟩
    · simp only [hw]
      exact ⟨k + 1, by omega, ⟨by omega, by rw [he, if_neg (by simpa using hc)]⟩, by (refine gh_wk ?_; (try simp only [setT, deT, setB, List.set_cons_succ, List.set_cons_zero]); (refine ⟨?_, ?_⟩ <;> (try dsimp only) <;> (repeat' (first | exact Wk.nil | exact WkB.nil | apply Wk.same | apply Wk.de | apply Wk.nl | apply WkB.same | apply WkB.drop))))⟩
    · exfalso; simp at *; omega
  · rw [List.drop_of_length_le (by omega), atG] at he
    repeat' (first
      | ((first
      | ((with_reducible apply AP.k_any); first
               | (refine AP.s1 rfl ?_ ?_; focus ((repeat' (with_reducible apply And.intro)) <;> (first | exact True.intro | exact rfl | omega | (simp; omega) | (simp; done) | assumption)))
               | (refine AP.s2 rfl ?_ ?_; focus ((repeat' (with_reducible apply And.intro)) <;> (first | exact True.intro | exact rfl | omega | (simp; omega) | (simp; done) | assumption)))
               | refine AP.pure rfl (pq_load1_rp rfl rfl rfl rfl (by (first | (refine ⟨?_, ?_⟩; assumption; rfl) | exact ⟨mapAt (by (first | omega | (simp; omega) | (simp; done) | assumption)), rfl⟩ | exact ⟨rfl, rfl⟩))) ?_ | refine AP.pure rfl (pq_loadN_rp rfl rfl rfl rfl (by (first | (refine ⟨?_, ?_⟩; assumption; rfl) | exact ⟨mapAt (by (first | omega | (simp; omega) | (simp; done) | assumption)), rfl⟩ | exact ⟨rfl, rfl⟩))) ?_ | refine AP.pure rfl (pq_load1_ep rfl rfl rfl rfl rfl (by (first | (refine ⟨?_, ?_⟩; assumption; rfl) | exact ⟨mapAt (by (first | omega | (simp; omega) | (simp; done) | assumption)), rfl⟩ | exact ⟨rfl, rfl⟩))) ?_ | refine AP.pure rfl (pq_loadN_ep rfl rfl rfl rfl rfl (by (first | (refine ⟨?_, ?_⟩; assumption; rfl) | exact ⟨mapAt (by (first | omega | (simp; omega) | (simp; done) | assumption)), rfl⟩ | exact ⟨rfl, rfl⟩))) ?_
        )
      
      
      )
        <;> (try simp only [nm, newS, plc, spl, bldA, bldS, zrow, chunks, ZC.val, Nat.reduceAdd, Nat.reduceSub, BEq.rfl]))
      | ((with_reducible apply AP.k_nil); first
          | (refine AP.nil (hQ' _ ?_); clear hQ' Q')
          | refine AP.nil ?_)
      | ((with_reducible apply CP.k_reg); refine cp_regG fun Q' hQ' => ?_)
        | (with_reducible apply CP.k_reg1; refine cp_region ?_)
        | ((with_reducible apply CP.k_cond); first
            | refine cp_condT rfl ?_
            | refine cp_condF rfl ?_
            | refine cp_cond rfl (fun hc => ?_) (fun hc => ?_))
        | (with_reducible first | refine cp_block ?_ | refine cp_exit ?_ | refine cp_ret ?_ | refine cp_skip ?_ | refine cp_seq ?_ | refine inB_hit ?_ | refine inB_n ?_ | refine inB_r ?_ | refine thenQ_n ?_ | refine thenQ_r ?_ | refine thenQ_e ?_ | refine cpn_succ ?_)
        | (refine inB_miss rfl ?_))
    all_goals first
      | (exfalso; simp at *; omega)
      | apply RetQ.mk (ks := [(0, 0)]) (by first | exact .inr rfl | exact .inl rfl)
        case hl => (repeat' (first | exact ResL.nil | apply ResL.cons (Res1.row rfl rfl rfl rfl rfl) | apply ResL.cons (Res1.flat rfl rfl rfl rfl rfl) | apply ResL.cons (Res1.tmp (by (try simp only [List.getD_cons_succ, List.getD_cons_zero]); exact rfl))))
        case hc => (repeat' (first | exact ClsC.nil | exact ClsL.nil | apply ClsC.nl | apply ClsC.leaf rfl | apply ClsC.hd rfl | apply ClsC.fn | apply ClsR.tu | apply ClsL.cons | apply ClsV.ag | exact ClsV.bp | exact ClsV.one (ClsC.leaf rfl ClsC.nil) | exact ClsV.one (ClsC.nl ClsC.nil) | exact ClsV.one (ClsC.hd rfl ClsC.nil) | apply ClsR.one))
        case hr => (repeat' (first | exact RnV.leaf rfl | exact RnC.nil | apply RnC.cons | apply RnV.ag | apply RnV.tu | exact RnV.bp rfl))
        case ho => (repeat' (first | exact Out.nil | apply Out.cons rfl | exact ClsC.nil | apply ClsC.nl | apply ClsC.leaf rfl | apply ClsC.hd rfl | apply ClsC.fn | apply ClsC.fz rfl (ro_B _) | apply ClsC.fz rfl (ro_M _) | apply ClsC.fz rfl (ro_E _ _) | apply ClsC.fz rfl rfl))
        case hk => exact hks_of rfl
        case hq => (try dsimp only [resV, List.getD_cons_succ, List.getD_cons_zero]); exact ⟨by rw [he], rfl⟩
theorem at_ac (l : List Member) (n : Int) (hl : l.length ≤ 100000000) : AC Try.prog 45 [ms none l, I n] [] (fun v bs => v = I (atG 0 l n) ∧ bs = []) := by
  refine AC.enter Try.func45 rfl rfl Try.ntmps45 (fl1_all rfl) (by (repeat' (first | exact Bk.nil | apply Bk.cons rfl rfl rfl))) ?_
  intro X
  simp only [nm, newS, plc, spl, bldA, bldS, zrow, chunks, ZC.val, Nat.reduceAdd, Nat.reduceSub, BEq.rfl]
  repeat' (first
    | ((first
    | ((with_reducible apply AP.k_any); first
             | (refine AP.s1 rfl ?_ ?_; focus ((repeat' (with_reducible apply And.intro)) <;> (first | exact True.intro | exact rfl | omega | (simp; omega) | (simp; done) | assumption)))
             | refine ap_box rfl rfl rfl rfl ?_
      )
    | ((with_reducible apply AP.k_any); refine ap_callB 0 [(0, 1)] rfl rfl (fn := 84) rfl (index_ac l n hl) (by (repeat' (first | exact PasC.nil | apply PasC.nil | apply PasC.cons | apply PasV.leaf rfl | apply PasV.nl | apply PasV.bp rfl | apply PasV.lend rfl rfl rfl | apply PasV.lend rfl rfl (ro_B _) | apply PasV.lend rfl rfl (ro_M _) | apply PasV.lend rfl rfl (ro_E _ _) | apply PasV.lend rfl rfl (ro_I _) | apply PasV.mv rfl | apply PasV.ag | apply PasV.fn | exact PasV.fs | apply PasV.any))) (by (repeat' (first | exact Out.nil | apply Out.cons rfl | exact ClsC.nil | apply ClsC.nl | apply ClsC.leaf rfl | apply ClsC.hd rfl | apply ClsC.fn | apply ClsC.fz rfl (ro_B _) | apply ClsC.fz rfl (ro_M _) | apply ClsC.fz rfl (ro_E _ _) | apply ClsC.fz rfl rfl))) rfl (by (repeat' (first | exact Bk.nil | apply Bk.cons rfl rfl rfl))) (by (repeat' (first | exact RnV.leaf rfl | exact RnC.nil | apply RnC.cons | apply RnV.ag | apply RnV.tu | exact RnV.bp rfl))) rfl ?_)
    
    )
      <;> (try simp only [nm, newS, plc, spl, bldA, bldS, zrow, chunks, ZC.val, Nat.reduceAdd, Nat.reduceSub, BEq.rfl]))
    | ((with_reducible apply AP.k_nil); first
        | (refine AP.nil (hQ' _ ?_); clear hQ' Q')
        | refine AP.nil ?_)
    | ((with_reducible apply CP.k_reg); refine cp_regG fun Q' hQ' => ?_)
      | (with_reducible apply CP.k_reg1; refine cp_region ?_)
      | ((with_reducible apply CP.k_cond); first
          | refine cp_condT rfl ?_
          | refine cp_condF rfl ?_
          | refine cp_cond rfl (fun hc => ?_) (fun hc => ?_))
      | (with_reducible first | refine cp_block ?_ | refine cp_exit ?_ | refine cp_ret ?_ | refine cp_skip ?_ | refine cp_seq ?_ | refine inB_hit ?_ | refine inB_n ?_ | refine inB_r ?_ | refine thenQ_n ?_ | refine thenQ_r ?_ | refine thenQ_e ?_ | refine cpn_succ ?_)
      | (refine inB_miss rfl ?_))
  apply RetQ.mk (ks := []) (by first | exact .inr rfl | exact .inl rfl)
  case hl => (repeat' (first | exact ResL.nil | apply ResL.cons (Res1.row rfl rfl rfl rfl rfl) | apply ResL.cons (Res1.flat rfl rfl rfl rfl rfl) | apply ResL.cons (Res1.tmp (by (try simp only [List.getD_cons_succ, List.getD_cons_zero]); exact rfl))))
  case hc => (repeat' (first | exact ClsC.nil | exact ClsL.nil | apply ClsC.nl | apply ClsC.leaf rfl | apply ClsC.hd rfl | apply ClsC.fn | apply ClsR.tu | apply ClsL.cons | apply ClsV.ag | exact ClsV.bp | exact ClsV.one (ClsC.leaf rfl ClsC.nil) | exact ClsV.one (ClsC.nl ClsC.nil) | exact ClsV.one (ClsC.hd rfl ClsC.nil) | apply ClsR.one))
  case hr => (repeat' (first | exact RnV.leaf rfl | exact RnC.nil | apply RnC.cons | apply RnV.ag | apply RnV.tu | exact RnV.bp rfl))
  case ho => (repeat' (first | exact Out.nil | apply Out.cons rfl | exact ClsC.nil | apply ClsC.nl | apply ClsC.leaf rfl | apply ClsC.hd rfl | apply ClsC.fn | apply ClsC.fz rfl (ro_B _) | apply ClsC.fz rfl (ro_M _) | apply ClsC.fz rfl (ro_E _ _) | apply ClsC.fz rfl rfl))
  case hk => exact hks_of rfl
  case hq => (try dsimp only [resV, List.getD_cons_succ, List.getD_cons_zero]); exact ⟨rfl, rfl⟩
def okM (c : Config) (i : Nat) (m : Member) : Bool :=
  thereS m.node && decide (atG 0 (c.members.take i) m.node < 0) && decide (1 ≤ m.since) && decide (m.since ≤ c.epoch) && (m.whole || (decide (i ≠ 0) && decide (c.members.length ≤ i + 1)))
def mayL (c : Config) : Nat → List Member → Bool
  | _, [] => true
  | i, m :: l => okM c i m && mayL c (i + 1) l
def mayC (c : Config) : Bool := decide (1 ≤ c.epoch) && decide (c.epoch ≤ 1099511627776) && decide (1 ≤ c.members.length) && decide (c.members.length ≤ 5) && mayL c 0 c.members
theorem may_ac (c : Config) (hc0 : c.members.length ≤ 100000000) : AC Try.prog 25 [.ag (eC none c)] [] (fun v bs => v = B (mayC c) ∧ bs = []) := by
  refine AC.enter Try.func25 rfl rfl Try.ntmps25 (fl1_all rfl) (by (repeat' (first | exact Bk.nil | apply Bk.cons rfl rfl rfl))) ?_
  intro X
  simp only [nm, newS, plc, spl, bldA, bldS, zrow, chunks, ZC.val, Nat.reduceAdd, Nat.reduceSub, BEq.rfl]
  repeat' (first
    | ((first
    | ((with_reducible apply AP.k_any); first
             | (refine AP.s1 rfl ?_ ?_; focus ((repeat' (with_reducible apply And.intro)) <;> (first | exact True.intro | exact rfl | omega | (simp; omega) | (simp; done) | assumption)))
             | (refine AP.s2 rfl ?_ ?_; focus ((repeat' (with_reducible apply And.intro)) <;> (first | exact True.intro | exact rfl | omega | (simp; omega) | (simp; done) | assumption)))
             | (refine AP.gyes rfl rfl rfl ?_; dsimp only) | refine AP.gno rfl rfl rfl rfl ?_ | refine AP.gund rfl rfl rfl ?_ | (refine AP.gsplit rfl rfl rfl (fun hg => ?_) (fun hg => ?_))
             | refine AP.pure rfl (pq_load1_rp rfl rfl rfl rfl (by (first | (refine ⟨?_, ?_⟩; assumption; rfl) | exact ⟨mapAt (by (first | omega | (simp; omega) | (simp; done) | assumption)), rfl⟩ | exact ⟨rfl, rfl⟩))) ?_ | refine AP.pure rfl (pq_loadN_rp rfl rfl rfl rfl (by (first | (refine ⟨?_, ?_⟩; assumption; rfl) | exact ⟨mapAt (by (first | omega | (simp; omega) | (simp; done) | assumption)), rfl⟩ | exact ⟨rfl, rfl⟩))) ?_ | refine AP.pure rfl (pq_load1_ep rfl rfl rfl rfl rfl (by (first | (refine ⟨?_, ?_⟩; assumption; rfl) | exact ⟨mapAt (by (first | omega | (simp; omega) | (simp; done) | assumption)), rfl⟩ | exact ⟨rfl, rfl⟩))) ?_ | refine AP.pure rfl (pq_loadN_ep rfl rfl rfl rfl rfl (by (first | (refine ⟨?_, ?_⟩; assumption; rfl) | exact ⟨mapAt (by (first | omega | (simp; omega) | (simp; done) | assumption)), rfl⟩ | exact ⟨rfl, rfl⟩))) ?_
             | refine ap_box rfl rfl rfl rfl ?_
             | refine ap_alloc rfl rfl rfl rfl ?_
             | refine ap_store rfl rfl rfl rfl rfl rfl rfl rfl rfl ?_
             | refine ap_storeE rfl rfl rfl rfl rfl rfl rfl rfl (by (first | (refine ⟨?_, ?_⟩; assumption; rfl) | exact ⟨mapAt (by (first | omega | (simp; omega) | (simp; done) | assumption)), rfl⟩ | exact ⟨rfl, rfl⟩)) (by exact rfl) ?_
             | (refine ap_nilsl rfl rfl rfl rfl rfl rfl (by first | exact .inl rfl | exact .inr rfl) (fun c hnil => ?_); simp only [nz])
      )
    
    | ((with_reducible apply AQ.k_any); first
                    | (refine AQ.s1 rfl ?_ ?_; focus ((repeat' (with_reducible apply And.intro)) <;> (first | exact True.intro | exact rfl | omega | (simp; omega) | (simp; done) | assumption)))
                    | (refine AQ.s2 rfl ?_ ?_; focus ((repeat' (with_reducible apply And.intro)) <;> (first | exact True.intro | exact rfl | omega | (simp; omega) | (simp; done) | assumption)))
                    | (refine AQ.gyes rfl rfl rfl ?_; dsimp only) | refine AQ.gno rfl rfl rfl rfl ?_ | refine AQ.gund rfl rfl rfl ?_ | (refine AQ.gsplit rfl rfl rfl (fun hg => ?_) (fun hg => ?_))
                    | refine AQ.pure rfl (pq_load1_rp rfl rfl rfl rfl (by (first | (refine ⟨?_, ?_⟩; assumption; rfl) | exact ⟨mapAt (by (first | omega | (simp; omega) | (simp; done) | assumption)), rfl⟩ | exact ⟨rfl, rfl⟩))) ?_ | refine AQ.pure rfl (pq_loadN_rp rfl rfl rfl rfl (by (first | (refine ⟨?_, ?_⟩; assumption; rfl) | exact ⟨mapAt (by (first | omega | (simp; omega) | (simp; done) | assumption)), rfl⟩ | exact ⟨rfl, rfl⟩))) ?_ | refine AQ.pure rfl (pq_load1_ep rfl rfl rfl rfl rfl (by (first | (refine ⟨?_, ?_⟩; assumption; rfl) | exact ⟨mapAt (by (first | omega | (simp; omega) | (simp; done) | assumption)), rfl⟩ | exact ⟨rfl, rfl⟩))) ?_ | refine AQ.pure rfl (pq_loadN_ep rfl rfl rfl rfl rfl (by (first | (refine ⟨?_, ?_⟩; assumption; rfl) | exact ⟨mapAt (by (first | omega | (simp; omega) | (simp; done) | assumption)), rfl⟩ | exact ⟨rfl, rfl⟩))) ?_
      )
    )
      <;> (try simp only [nm, newS, plc, spl, bldA, bldS, zrow, chunks, ZC.val, Nat.reduceAdd, Nat.reduceSub, BEq.rfl]))
    | ((with_reducible apply AP.k_nil); first
        | (refine AP.nil (hQ' _ ?_); clear hQ' Q')
        | refine AP.nil ?_)
    | ((with_reducible apply AQ.k_nil); first | (refine AQ.nil (hQ' _ ?_); clear hQ' Q') | refine AQ.nil ?_)
    | ((with_reducible apply CP.k_drw); refine cp_drw (by kernel_rfl) (by kernel_rfl) fun Q' hQ' => ?_)
    | ((with_reducible apply CP.k_drw1); refine cp_draw (by kernel_rfl) (by kernel_rfl) ?_)
    | ((with_reducible apply CP.k_reg); refine cp_regG fun Q' hQ' => ?_)
      | (with_reducible apply CP.k_reg1; refine cp_region ?_)
      | ((with_reducible apply CP.k_cond); first
          | refine cp_condT rfl ?_
          | refine cp_condF rfl ?_
          | refine cp_cond rfl (fun hc => ?_) (fun hc => ?_))
      | (with_reducible first | refine cp_block ?_ | refine cp_exit ?_ | refine cp_ret ?_ | refine cp_skip ?_ | refine cp_seq ?_ | refine inB_hit ?_ | refine inB_n ?_ | refine inB_r ?_ | refine thenQ_n ?_ | refine thenQ_r ?_ | refine thenQ_e ?_ | refine cpn_succ ?_)
      | (refine inB_miss rfl ?_))
  · apply RetQ.mk (ks := []) (by first | exact .inr rfl | exact .inl rfl)
    case hl => (repeat' (first | exact ResL.nil | apply ResL.cons (Res1.row rfl rfl rfl rfl rfl) | apply ResL.cons (Res1.flat rfl rfl rfl rfl rfl) | apply ResL.cons (Res1.tmp (by (try simp only [List.getD_cons_succ, List.getD_cons_zero]); exact rfl))))
    case hc => (repeat' (first | exact ClsC.nil | exact ClsL.nil | apply ClsC.nl | apply ClsC.leaf rfl | apply ClsC.hd rfl | apply ClsC.fn | apply ClsR.tu | apply ClsL.cons | apply ClsV.ag | exact ClsV.bp | exact ClsV.one (ClsC.leaf rfl ClsC.nil) | exact ClsV.one (ClsC.nl ClsC.nil) | exact ClsV.one (ClsC.hd rfl ClsC.nil) | apply ClsR.one))
    case hr => (repeat' (first | exact RnV.leaf rfl | exact RnC.nil | apply RnC.cons | apply RnV.ag | apply RnV.tu | exact RnV.bp rfl))
    case ho => (repeat' (first | exact Out.nil | apply Out.cons rfl | exact ClsC.nil | apply ClsC.nl | apply ClsC.leaf rfl | apply ClsC.hd rfl | apply ClsC.fn | apply ClsC.fz rfl (ro_B _) | apply ClsC.fz rfl (ro_M _) | apply ClsC.fz rfl (ro_E _ _) | apply ClsC.fz rfl rfl))
    case hk => exact hks_of rfl
    case hq => (try dsimp only [resV, List.getD_cons_succ, List.getD_cons_zero]); (have h : mayC c = false := by (simp [mayC]; simp at *; omega)); exact ⟨by rw [h], rfl⟩
  · apply RetQ.mk (ks := []) (by first | exact .inr rfl | exact .inl rfl)
    case hl => (repeat' (first | exact ResL.nil | apply ResL.cons (Res1.row rfl rfl rfl rfl rfl) | apply ResL.cons (Res1.flat rfl rfl rfl rfl rfl) | apply ResL.cons (Res1.tmp (by (try simp only [List.getD_cons_succ, List.getD_cons_zero]); exact rfl))))
    case hc => (repeat' (first | exact ClsC.nil | exact ClsL.nil | apply ClsC.nl | apply ClsC.leaf rfl | apply ClsC.hd rfl | apply ClsC.fn | apply ClsR.tu | apply ClsL.cons | apply ClsV.ag | exact ClsV.bp | exact ClsV.one (ClsC.leaf rfl ClsC.nil) | exact ClsV.one (ClsC.nl ClsC.nil) | exact ClsV.one (ClsC.hd rfl ClsC.nil) | apply ClsR.one))
    case hr => (repeat' (first | exact RnV.leaf rfl | exact RnC.nil | apply RnC.cons | apply RnV.ag | apply RnV.tu | exact RnV.bp rfl))
    case ho => (repeat' (first | exact Out.nil | apply Out.cons rfl | exact ClsC.nil | apply ClsC.nl | apply ClsC.leaf rfl | apply ClsC.hd rfl | apply ClsC.fn | apply ClsC.fz rfl (ro_B _) | apply ClsC.fz rfl (ro_M _) | apply ClsC.fz rfl (ro_E _ _) | apply ClsC.fz rfl rfl))
    case hk => exact hks_of rfl
    case hq => (try dsimp only [resV, List.getD_cons_succ, List.getD_cons_zero]); (have h : mayC c = false := by (simp [mayC]; simp at *; omega)); exact ⟨by rw [h], rfl⟩
  · apply RetQ.mk (ks := []) (by first | exact .inr rfl | exact .inl rfl)
    case hl => (repeat' (first | exact ResL.nil | apply ResL.cons (Res1.row rfl rfl rfl rfl rfl) | apply ResL.cons (Res1.flat rfl rfl rfl rfl rfl) | apply ResL.cons (Res1.tmp (by (try simp only [List.getD_cons_succ, List.getD_cons_zero]); exact rfl))))
    case hc => (repeat' (first | exact ClsC.nil | exact ClsL.nil | apply ClsC.nl | apply ClsC.leaf rfl | apply ClsC.hd rfl | apply ClsC.fn | apply ClsR.tu | apply ClsL.cons | apply ClsV.ag | exact ClsV.bp | exact ClsV.one (ClsC.leaf rfl ClsC.nil) | exact ClsV.one (ClsC.nl ClsC.nil) | exact ClsV.one (ClsC.hd rfl ClsC.nil) | apply ClsR.one))
    case hr => (repeat' (first | exact RnV.leaf rfl | exact RnC.nil | apply RnC.cons | apply RnV.ag | apply RnV.tu | exact RnV.bp rfl))
    case ho => (repeat' (first | exact Out.nil | apply Out.cons rfl | exact ClsC.nil | apply ClsC.nl | apply ClsC.leaf rfl | apply ClsC.hd rfl | apply ClsC.fn | apply ClsC.fz rfl (ro_B _) | apply ClsC.fz rfl (ro_M _) | apply ClsC.fz rfl (ro_E _ _) | apply ClsC.fz rfl rfl))
    case hk => exact hks_of rfl
    case hq => (try dsimp only [resV, List.getD_cons_succ, List.getD_cons_zero]); (have h : mayC c = false := by (simp [mayC]; simp at *; omega)); exact ⟨by rw [h], rfl⟩
  · apply RetQ.mk (ks := []) (by first | exact .inr rfl | exact .inl rfl)
    case hl => (repeat' (first | exact ResL.nil | apply ResL.cons (Res1.row rfl rfl rfl rfl rfl) | apply ResL.cons (Res1.flat rfl rfl rfl rfl rfl) | apply ResL.cons (Res1.tmp (by (try simp only [List.getD_cons_succ, List.getD_cons_zero]); exact rfl))))
    case hc => (repeat' (first | exact ClsC.nil | exact ClsL.nil | apply ClsC.nl | apply ClsC.leaf rfl | apply ClsC.hd rfl | apply ClsC.fn | apply ClsR.tu | apply ClsL.cons | apply ClsV.ag | exact ClsV.bp | exact ClsV.one (ClsC.leaf rfl ClsC.nil) | exact ClsV.one (ClsC.nl ClsC.nil) | exact ClsV.one (ClsC.hd rfl ClsC.nil) | apply ClsR.one))
    case hr => (repeat' (first | exact RnV.leaf rfl | exact RnC.nil | apply RnC.cons | apply RnV.ag | apply RnV.tu | exact RnV.bp rfl))
    case ho => (repeat' (first | exact Out.nil | apply Out.cons rfl | exact ClsC.nil | apply ClsC.nl | apply ClsC.leaf rfl | apply ClsC.hd rfl | apply ClsC.fn | apply ClsC.fz rfl (ro_B _) | apply ClsC.fz rfl (ro_M _) | apply ClsC.fz rfl (ro_E _ _) | apply ClsC.fz rfl rfl))
    case hk => exact hks_of rfl
    case hq => (try dsimp only [resV, List.getD_cons_succ, List.getD_cons_zero]); (have h : mayC c = false := by (simp [mayC]; simp at *; omega)); exact ⟨by rw [h], rfl⟩
  rename_i hg1 hg2
  simp at hg hg1 hg2 hc
  have hm : mayC c = mayL c 0 c.members := by
    have e1 : 1 ≤ c.epoch := by omega
    have e2 : c.epoch ≤ 1099511627776 := by omega
    have e3 : 1 ≤ c.members.length := by omega
    have e4 : c.members.length ≤ 5 := by omega
    simp [mayC, e1, e2, e3, e4]
  clear hg1 hg2
  refine CP.gh gh_slot ?_
  simp only [nm, newS, plc, spl, bldA, bldS, zrow, chunks, ZC.val, Nat.reduceAdd, Nat.reduceSub, BEq.rfl]
  refine cp_loopS [2, 4, 5, 28, 29, 30, 31, 32, 33, 34, 35, 36, 37, 38, 39, 40, 41, 42, 43, 44, 45, 46, 47, 48, 49, 50, 51, 52, 53, 54, 55, 56, 57, 58, 59, 60, 61, 62, 63, 64, 65, 66, 67, 68, 69, 70, 71, 72, 73, 74, 75] (fun a : Nat × Nat => c.members.length - a.1) (fun a => a.1 ≤ c.members.length ∧ mayC c = mayL c a.1 (c.members.drop a.1)) (fun a => [(28, I a.1)]) (fun a => [(1, ⟨a.2, .x⟩)]) (0, 0) ⟨by omega, hm⟩ (by (refine gh_wk ?_; (try simp only [setT, deT, setB, List.set_cons_succ, List.set_cons_zero]); (refine ⟨?_, ?_⟩ <;> (try dsimp only) <;> (repeat' (first | exact Wk.nil | exact WkB.nil | apply Wk.same | apply Wk.de | apply Wk.nl | apply WkB.same | apply WkB.drop))))) ?_
  rintro ⟨k, u⟩ ⟨hk, he⟩
  simp only [setT, deT, setB, List.set_cons_succ, List.set_cons_zero]
  dsimp only at hk he
  by_cases hlt : k < c.members.length
  · have hw : IntKind.i64.wrap ((k : Int) + 1) = ((k + 1 : Nat) : Int) := wrap_i64 (by omega) (by omega)
    have hw2 : IntKind.i64.wrap ((c.members.length : Int) - 1) = (c.members.length : Int) - 1 := wrap_i64 (by omega) (by omega)
    rw [List.drop_eq_getElem_cons hlt, mayL] at he
    repeat' (first
      | ((first
      | ((with_reducible apply AP.k_any); first
               | (refine AP.s1 rfl ?_ ?_; focus ((repeat' (with_reducible apply And.intro)) <;> (first | exact True.intro | exact rfl | omega | (simp; omega) | (simp; done) | assumption)))
               | (refine AP.s2 rfl ?_ ?_; focus ((repeat' (with_reducible apply And.intro)) <;> (first | exact True.intro | exact rfl | omega | (simp; omega) | (simp; done) | assumption)))
               | (refine AP.gyes rfl rfl rfl ?_; dsimp only) | refine AP.gno rfl rfl rfl rfl ?_ | refine AP.gund rfl rfl rfl ?_ | (refine AP.gsplit rfl rfl rfl (fun hg => ?_) (fun hg => ?_))
               | refine AP.pure rfl (pq_load1_rp rfl rfl rfl rfl (by (first | (refine ⟨?_, ?_⟩; assumption; rfl) | exact ⟨mapAt (by (first | omega | (simp; omega) | (simp; done) | assumption)), rfl⟩ | exact ⟨rfl, rfl⟩))) ?_ | refine AP.pure rfl (pq_loadN_rp rfl rfl rfl rfl (by (first | (refine ⟨?_, ?_⟩; assumption; rfl) | exact ⟨mapAt (by (first | omega | (simp; omega) | (simp; done) | assumption)), rfl⟩ | exact ⟨rfl, rfl⟩))) ?_ | refine AP.pure rfl (pq_load1_ep rfl rfl rfl rfl rfl (by (first | (refine ⟨?_, ?_⟩; assumption; rfl) | exact ⟨mapAt (by (first | omega | (simp; omega) | (simp; done) | assumption)), rfl⟩ | exact ⟨rfl, rfl⟩))) ?_ | refine AP.pure rfl (pq_loadN_ep rfl rfl rfl rfl rfl (by (first | (refine ⟨?_, ?_⟩; assumption; rfl) | exact ⟨mapAt (by (first | omega | (simp; omega) | (simp; done) | assumption)), rfl⟩ | exact ⟨rfl, rfl⟩))) ?_
               | refine ap_box rfl rfl rfl rfl ?_
               | refine ap_alloc rfl rfl rfl rfl ?_
               | refine ap_store rfl rfl rfl rfl rfl rfl rfl rfl rfl ?_
               | refine ap_storeE rfl rfl rfl rfl rfl rfl rfl rfl (by (first | (refine ⟨?_, ?_⟩; assumption; rfl) | exact ⟨mapAt (by (first | omega | (simp; omega) | (simp; done) | assumption)), rfl⟩ | exact ⟨rfl, rfl⟩)) (by exact rfl) ?_
               | (refine ap_nilsl rfl rfl rfl rfl rfl rfl (by first | exact .inl rfl | exact .inr rfl) (fun c hnil => ?_); simp only [nz])
        )
      
      | ((with_reducible apply AQ.k_any); first
                      | (refine AQ.s1 rfl ?_ ?_; focus ((repeat' (with_reducible apply And.intro)) <;> (first | exact True.intro | exact rfl | omega | (simp; omega) | (simp; done) | assumption)))
                      | (refine AQ.s2 rfl ?_ ?_; focus ((repeat' (with_reducible apply And.intro)) <;> (first | exact True.intro | exact rfl | omega | (simp; omega) | (simp; done) | assumption)))
                      | (refine AQ.gyes rfl rfl rfl ?_; dsimp only) | refine AQ.gno rfl rfl rfl rfl ?_ | refine AQ.gund rfl rfl rfl ?_ | (refine AQ.gsplit rfl rfl rfl (fun hg => ?_) (fun hg => ?_))
                      | refine AQ.pure rfl (pq_load1_rp rfl rfl rfl rfl (by (first | (refine ⟨?_, ?_⟩; assumption; rfl) | exact ⟨mapAt (by (first | omega | (simp; omega) | (simp; done) | assumption)), rfl⟩ | exact ⟨rfl, rfl⟩))) ?_ | refine AQ.pure rfl (pq_loadN_rp rfl rfl rfl rfl (by (first | (refine ⟨?_, ?_⟩; assumption; rfl) | exact ⟨mapAt (by (first | omega | (simp; omega) | (simp; done) | assumption)), rfl⟩ | exact ⟨rfl, rfl⟩))) ?_ | refine AQ.pure rfl (pq_load1_ep rfl rfl rfl rfl rfl (by (first | (refine ⟨?_, ?_⟩; assumption; rfl) | exact ⟨mapAt (by (first | omega | (simp; omega) | (simp; done) | assumption)), rfl⟩ | exact ⟨rfl, rfl⟩))) ?_ | refine AQ.pure rfl (pq_loadN_ep rfl rfl rfl rfl rfl (by (first | (refine ⟨?_, ?_⟩; assumption; rfl) | exact ⟨mapAt (by (first | omega | (simp; omega) | (simp; done) | assumption)), rfl⟩ | exact ⟨rfl, rfl⟩))) ?_
        )
      | ((with_reducible apply AQ.k_any); refine AQ.pure rfl (pq_call (fn := 44) rfl rfl (there_ac _) rfl rfl (by (repeat' (first | exact PasC.nil | apply PasC.nil | apply PasC.cons | apply PasV.leaf rfl | apply PasV.nl | apply PasV.bp rfl | apply PasV.lend rfl rfl rfl | apply PasV.lend rfl rfl (ro_B _) | apply PasV.lend rfl rfl (ro_M _) | apply PasV.lend rfl rfl (ro_E _ _) | apply PasV.lend rfl rfl (ro_I _) | apply PasV.mv rfl | apply PasV.ag | apply PasV.fn | exact PasV.fs | apply PasV.any)))) ?_)
        | ((with_reducible apply AQ.k_any); refine AQ.pure rfl (pq_call (fn := 45) rfl rfl (at_ac (c.members.take k) _ (by simp; omega)) rfl rfl (by (repeat' (first | exact PasC.nil | apply PasC.nil | apply PasC.cons | apply PasV.leaf rfl | apply PasV.nl | apply PasV.bp rfl | apply PasV.lend rfl rfl rfl | apply PasV.lend rfl rfl (ro_B _) | apply PasV.lend rfl rfl (ro_M _) | apply PasV.lend rfl rfl (ro_E _ _) | apply PasV.lend rfl rfl (ro_I _) | apply PasV.mv rfl | apply PasV.ag | apply PasV.fn | exact PasV.fs | apply PasV.any)))) ?_))
        <;> (try simp only [nm, newS, plc, spl, bldA, bldS, zrow, chunks, ZC.val, Nat.reduceAdd, Nat.reduceSub, BEq.rfl]))
      | ((with_reducible apply AP.k_nil); first
          | (refine AP.nil (hQ' _ ?_); clear hQ' Q')
          | refine AP.nil ?_)
      | ((with_reducible apply AQ.k_nil); first | (refine AQ.nil (hQ' _ ?_); clear hQ' Q') | refine AQ.nil ?_)
      | ((with_reducible apply CP.k_drw); refine cp_drw (by kernel_rfl) (by kernel_rfl) fun Q' hQ' => ?_)
      | ((with_reducible apply CP.k_drw1); refine cp_draw (by kernel_rfl) (by kernel_rfl) ?_)
      | ((with_reducible apply CP.k_reg); refine cp_regG fun Q' hQ' => ?_)
        | (with_reducible apply CP.k_reg1; refine cp_region ?_)
        | ((with_reducible apply CP.k_cond); first
            | refine cp_condT rfl ?_
            | refine cp_condF rfl ?_
            | refine cp_cond rfl (fun hc => ?_) (fun hc => ?_))
        | (with_reducible first | refine cp_block ?_ | refine cp_exit ?_ | refine cp_ret ?_ | refine cp_skip ?_ | refine cp_seq ?_ | refine inB_hit ?_ | refine inB_n ?_ | refine inB_r ?_ | refine thenQ_n ?_ | refine thenQ_r ?_ | refine thenQ_e ?_ | refine cpn_succ ?_)
        | (refine inB_miss rfl ?_))

    all_goals simp only [List.length_map, hw2, Nat.sub_zero, Int.toNat_natCast, List.drop_zero] at *
    all_goals first
      | (exfalso; simp at *; omega)
      | apply RetQ.mk (ks := []) (by first | exact .inr rfl | exact .inl rfl)
        case hl => (repeat' (first | exact ResL.nil | apply ResL.cons (Res1.row rfl rfl rfl rfl rfl) | apply ResL.cons (Res1.flat rfl rfl rfl rfl rfl) | apply ResL.cons (Res1.tmp (by (try simp only [List.getD_cons_succ, List.getD_cons_zero]); exact rfl))))
        case hc => (repeat' (first | exact ClsC.nil | exact ClsL.nil | apply ClsC.nl | apply ClsC.leaf rfl | apply ClsC.hd rfl | apply ClsC.fn | apply ClsR.tu | apply ClsL.cons | apply ClsV.ag | exact ClsV.bp | exact ClsV.one (ClsC.leaf rfl ClsC.nil) | exact ClsV.one (ClsC.nl ClsC.nil) | exact ClsV.one (ClsC.hd rfl ClsC.nil) | apply ClsR.one))
        case hr => (repeat' (first | exact RnV.leaf rfl | exact RnC.nil | apply RnC.cons | apply RnV.ag | apply RnV.tu | exact RnV.bp rfl))
        case ho => (repeat' (first | exact Out.nil | apply Out.cons rfl | exact ClsC.nil | apply ClsC.nl | apply ClsC.leaf rfl | apply ClsC.hd rfl | apply ClsC.fn | apply ClsC.fz rfl (ro_B _) | apply ClsC.fz rfl (ro_M _) | apply ClsC.fz rfl (ro_E _ _) | apply ClsC.fz rfl rfl))
        case hk => exact hks_of rfl
        case hq => (try dsimp only [resV, List.getD_cons_succ, List.getD_cons_zero]); (have h : okM c k c.members[k] = false := by (cases h : okM c k c.members[k] with | false => rfl | true => (exfalso; clear he hm hw; simp [okM] at h; cases hwh : c.members[k].whole <;> simp_all <;> omega))); (have h2 : mayC c = false := by rw [he, h, Bool.false_and]); exact ⟨by rw [h2], rfl⟩
      | ((try simp only [hw]); exact ⟨(k + 1, u + 1), by (dsimp only; omega), ⟨by (dsimp only; omega), by rw [he]; (have h : okM c k c.members[k] = true := by (clear he hm hw; cases hwh : c.members[k].whole <;> simp [okM, hwh] <;> simp_all <;> omega)); rw [h, Bool.true_and]⟩, by (refine gh_wk ?_; (try simp only [setT, deT, setB, List.set_cons_succ, List.set_cons_zero]); (refine ⟨?_, ?_⟩ <;> (try dsimp only) <;> (repeat' (first | exact Wk.nil | exact WkB.nil | apply Wk.same | apply Wk.de | apply Wk.nl | apply WkB.same | apply WkB.drop))))⟩)
  · rw [List.drop_of_length_le (by omega), mayL] at he
    repeat' (first
      | ((first
      | ((with_reducible apply AP.k_any); first
               | (refine AP.s1 rfl ?_ ?_; focus ((repeat' (with_reducible apply And.intro)) <;> (first | exact True.intro | exact rfl | omega | (simp; omega) | (simp; done) | assumption)))
               | (refine AP.s2 rfl ?_ ?_; focus ((repeat' (with_reducible apply And.intro)) <;> (first | exact True.intro | exact rfl | omega | (simp; omega) | (simp; done) | assumption)))
               | (refine AP.gyes rfl rfl rfl ?_; dsimp only) | refine AP.gno rfl rfl rfl rfl ?_ | refine AP.gund rfl rfl rfl ?_ | (refine AP.gsplit rfl rfl rfl (fun hg => ?_) (fun hg => ?_))
               | refine AP.pure rfl (pq_load1_rp rfl rfl rfl rfl (by (first | (refine ⟨?_, ?_⟩; assumption; rfl) | exact ⟨mapAt (by (first | omega | (simp; omega) | (simp; done) | assumption)), rfl⟩ | exact ⟨rfl, rfl⟩))) ?_ | refine AP.pure rfl (pq_loadN_rp rfl rfl rfl rfl (by (first | (refine ⟨?_, ?_⟩; assumption; rfl) | exact ⟨mapAt (by (first | omega | (simp; omega) | (simp; done) | assumption)), rfl⟩ | exact ⟨rfl, rfl⟩))) ?_ | refine AP.pure rfl (pq_load1_ep rfl rfl rfl rfl rfl (by (first | (refine ⟨?_, ?_⟩; assumption; rfl) | exact ⟨mapAt (by (first | omega | (simp; omega) | (simp; done) | assumption)), rfl⟩ | exact ⟨rfl, rfl⟩))) ?_ | refine AP.pure rfl (pq_loadN_ep rfl rfl rfl rfl rfl (by (first | (refine ⟨?_, ?_⟩; assumption; rfl) | exact ⟨mapAt (by (first | omega | (simp; omega) | (simp; done) | assumption)), rfl⟩ | exact ⟨rfl, rfl⟩))) ?_
               | refine ap_box rfl rfl rfl rfl ?_
               | refine ap_alloc rfl rfl rfl rfl ?_
               | refine ap_store rfl rfl rfl rfl rfl rfl rfl rfl rfl ?_
               | refine ap_storeE rfl rfl rfl rfl rfl rfl rfl rfl (by (first | (refine ⟨?_, ?_⟩; assumption; rfl) | exact ⟨mapAt (by (first | omega | (simp; omega) | (simp; done) | assumption)), rfl⟩ | exact ⟨rfl, rfl⟩)) (by exact rfl) ?_
               | (refine ap_nilsl rfl rfl rfl rfl rfl rfl (by first | exact .inl rfl | exact .inr rfl) (fun c hnil => ?_); simp only [nz])
        )
      
      | ((with_reducible apply AQ.k_any); first
                      | (refine AQ.s1 rfl ?_ ?_; focus ((repeat' (with_reducible apply And.intro)) <;> (first | exact True.intro | exact rfl | omega | (simp; omega) | (simp; done) | assumption)))
                      | (refine AQ.s2 rfl ?_ ?_; focus ((repeat' (with_reducible apply And.intro)) <;> (first | exact True.intro | exact rfl | omega | (simp; omega) | (simp; done) | assumption)))
                      | (refine AQ.gyes rfl rfl rfl ?_; dsimp only) | refine AQ.gno rfl rfl rfl rfl ?_ | refine AQ.gund rfl rfl rfl ?_ | (refine AQ.gsplit rfl rfl rfl (fun hg => ?_) (fun hg => ?_))
                      | refine AQ.pure rfl (pq_load1_rp rfl rfl rfl rfl (by (first | (refine ⟨?_, ?_⟩; assumption; rfl) | exact ⟨mapAt (by (first | omega | (simp; omega) | (simp; done) | assumption)), rfl⟩ | exact ⟨rfl, rfl⟩))) ?_ | refine AQ.pure rfl (pq_loadN_rp rfl rfl rfl rfl (by (first | (refine ⟨?_, ?_⟩; assumption; rfl) | exact ⟨mapAt (by (first | omega | (simp; omega) | (simp; done) | assumption)), rfl⟩ | exact ⟨rfl, rfl⟩))) ?_ | refine AQ.pure rfl (pq_load1_ep rfl rfl rfl rfl rfl (by (first | (refine ⟨?_, ?_⟩; assumption; rfl) | exact ⟨mapAt (by (first | omega | (simp; omega) | (simp; done) | assumption)), rfl⟩ | exact ⟨rfl, rfl⟩))) ?_ | refine AQ.pure rfl (pq_loadN_ep rfl rfl rfl rfl rfl (by (first | (refine ⟨?_, ?_⟩; assumption; rfl) | exact ⟨mapAt (by (first | omega | (simp; omega) | (simp; done) | assumption)), rfl⟩ | exact ⟨rfl, rfl⟩))) ?_
        )
      )
        <;> (try simp only [nm, newS, plc, spl, bldA, bldS, zrow, chunks, ZC.val, Nat.reduceAdd, Nat.reduceSub, BEq.rfl]))
      | ((with_reducible apply AP.k_nil); first
          | (refine AP.nil (hQ' _ ?_); clear hQ' Q')
          | refine AP.nil ?_)
      | ((with_reducible apply AQ.k_nil); first | (refine AQ.nil (hQ' _ ?_); clear hQ' Q') | refine AQ.nil ?_)
      | ((with_reducible apply CP.k_drw); refine cp_drw (by kernel_rfl) (by kernel_rfl) fun Q' hQ' => ?_)
      | ((with_reducible apply CP.k_drw1); refine cp_draw (by kernel_rfl) (by kernel_rfl) ?_)
      | ((with_reducible apply CP.k_reg); refine cp_regG fun Q' hQ' => ?_)
        | (with_reducible apply CP.k_reg1; refine cp_region ?_)
        | ((with_reducible apply CP.k_cond); first
            | refine cp_condT rfl ?_
            | refine cp_condF rfl ?_
            | refine cp_cond rfl (fun hc => ?_) (fun hc => ?_))
        | (with_reducible first | refine cp_block ?_ | refine cp_exit ?_ | refine cp_ret ?_ | refine cp_skip ?_ | refine cp_seq ?_ | refine inB_hit ?_ | refine inB_n ?_ | refine inB_r ?_ | refine thenQ_n ?_ | refine thenQ_r ?_ | refine thenQ_e ?_ | refine cpn_succ ?_)
        | (refine inB_miss rfl ?_))
    all_goals first
      | (exfalso; simp at *; omega)
      | apply RetQ.mk (ks := []) (by first | exact .inr rfl | exact .inl rfl)
        case hl => (repeat' (first | exact ResL.nil | apply ResL.cons (Res1.row rfl rfl rfl rfl rfl) | apply ResL.cons (Res1.flat rfl rfl rfl rfl rfl) | apply ResL.cons (Res1.tmp (by (try simp only [List.getD_cons_succ, List.getD_cons_zero]); exact rfl))))
        case hc => (repeat' (first | exact ClsC.nil | exact ClsL.nil | apply ClsC.nl | apply ClsC.leaf rfl | apply ClsC.hd rfl | apply ClsC.fn | apply ClsR.tu | apply ClsL.cons | apply ClsV.ag | exact ClsV.bp | exact ClsV.one (ClsC.leaf rfl ClsC.nil) | exact ClsV.one (ClsC.nl ClsC.nil) | exact ClsV.one (ClsC.hd rfl ClsC.nil) | apply ClsR.one))
        case hr => (repeat' (first | exact RnV.leaf rfl | exact RnC.nil | apply RnC.cons | apply RnV.ag | apply RnV.tu | exact RnV.bp rfl))
        case ho => (repeat' (first | exact Out.nil | apply Out.cons rfl | exact ClsC.nil | apply ClsC.nl | apply ClsC.leaf rfl | apply ClsC.hd rfl | apply ClsC.fn | apply ClsC.fz rfl (ro_B _) | apply ClsC.fz rfl (ro_M _) | apply ClsC.fz rfl (ro_E _ _) | apply ClsC.fz rfl rfl))
        case hk => exact hks_of rfl
        case hq => (try dsimp only [resV, List.getD_cons_succ, List.getD_cons_zero]); exact ⟨by rw [he], rfl⟩
end Go.Proofs.Ytkdbedbefojieaa
