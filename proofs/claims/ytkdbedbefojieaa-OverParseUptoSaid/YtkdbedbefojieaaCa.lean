/-
  Bytes: the same, one behind the other, copies.
-/
import Derived.Test.YtkdbedbefojieaaEncB
namespace Go.Proofs.Ytkdbedbefojieaa
set_option linter.unusedVariables false
set_option linter.unusedSimpArgs false
set_option maxHeartbeats 8000000
open Go.RowKit
set_option maxRecDepth 100000
theorem same_ac (a b : List UInt8) (ha : a.length ≤ 1000000000) :
    AC Try.prog 30 [bs none a, bs none b] [] (fun v bs => v = B (decide (a = b)) ∧ bs = []) := by
  refine AC.enter Try.func30 rfl rfl Try.ntmps30 (fl1_all rfl) (by (repeat' (first | exact Bk.nil | apply Bk.cons rfl rfl rfl))) ?_
  intro X
  simp only [nm, newS, plc, spl, bldA, bldS, zrow, chunks, ZC.val, Nat.reduceAdd, Nat.reduceSub, BEq.rfl]
  repeat' (first
    | ((first
    | ((with_reducible apply AP.k_any); first
             | (refine AP.s1 rfl ?_ ?_; focus ((repeat' (with_reducible apply And.intro)) <;> (first | exact True.intro | exact rfl | omega | (simp; omega) | (simp; done) | assumption)))
             | (refine AP.s2 rfl ?_ ?_; focus ((repeat' (with_reducible apply And.intro)) <;> (first | exact True.intro | exact rfl | omega | (simp; omega) | (simp; done) | assumption)))
             | refine AP.pure rfl (pq_load1_rp rfl rfl rfl rfl (by (first | (refine ⟨?_, ?_⟩; assumption; rfl) | exact ⟨mapAt (by (first | omega | (simp; omega) | (simp; done) | assumption)), rfl⟩ | exact ⟨rfl, rfl⟩))) ?_ | refine AP.pure rfl (pq_loadN_rp rfl rfl rfl rfl (by (first | (refine ⟨?_, ?_⟩; assumption; rfl) | exact ⟨mapAt (by (first | omega | (simp; omega) | (simp; done) | assumption)), rfl⟩ | exact ⟨rfl, rfl⟩))) ?_ | refine AP.pure rfl (pq_load1_ep rfl rfl rfl rfl rfl (by (first | (refine ⟨?_, ?_⟩; assumption; rfl) | exact ⟨mapAt (by (first | omega | (simp; omega) | (simp; done) | assumption)), rfl⟩ | exact ⟨rfl, rfl⟩))) ?_ | refine AP.pure rfl (pq_loadN_ep rfl rfl rfl rfl rfl (by (first | (refine ⟨?_, ?_⟩; assumption; rfl) | exact ⟨mapAt (by (first | omega | (simp; omega) | (simp; done) | assumption)), rfl⟩ | exact ⟨rfl, rfl⟩))) ?_
             | (refine ap_nilsl rfl rfl rfl rfl rfl rfl (by first | exact .inl rfl | exact .inr rfl) (fun c hnil => ?_); simp only [nz])
      )
    
    | ((with_reducible apply AQ.k_any); first
                    | (refine AQ.s1 rfl ?_ ?_; focus ((repeat' (with_reducible apply And.intro)) <;> (first | exact True.intro | exact rfl | omega | (simp; omega) | (simp; done) | assumption)))
                    | (refine AQ.s2 rfl ?_ ?_; focus ((repeat' (with_reducible apply And.intro)) <;> (first | exact True.intro | exact rfl | omega | (simp; omega) | (simp; done) | assumption)))
                    | refine AQ.pure rfl (pq_load1_rp rfl rfl rfl rfl (by (first | (refine ⟨?_, ?_⟩; assumption; rfl) | exact ⟨mapAt (by (first | omega | (simp; omega) | (simp; done) | assumption)), rfl⟩ | exact ⟨rfl, rfl⟩))) ?_ | refine AQ.pure rfl (pq_loadN_rp rfl rfl rfl rfl (by (first | (refine ⟨?_, ?_⟩; assumption; rfl) | exact ⟨mapAt (by (first | omega | (simp; omega) | (simp; done) | assumption)), rfl⟩ | exact ⟨rfl, rfl⟩))) ?_ | refine AQ.pure rfl (pq_load1_ep rfl rfl rfl rfl rfl (by (first | (refine ⟨?_, ?_⟩; assumption; rfl) | exact ⟨mapAt (by (first | omega | (simp; omega) | (simp; done) | assumption)), rfl⟩ | exact ⟨rfl, rfl⟩))) ?_ | refine AQ.pure rfl (pq_loadN_ep rfl rfl rfl rfl rfl (by (first | (refine ⟨?_, ?_⟩; assumption; rfl) | exact ⟨mapAt (by (first | omega | (simp; omega) | (simp; done) | assumption)), rfl⟩ | exact ⟨rfl, rfl⟩))) ?_
      )
    )
      <;> (try simp only [nm, newS, plc, spl, bldA, bldS, zrow, chunks, ZC.val, Nat.reduceAdd, Nat.reduceSub, BEq.rfl]))
    | ((with_reducible apply AP.k_nil); first
        | (refine AP.nil (hQ' _ ?_); clear hQ' Q')
        | refine AP.nil ?_)
    | ((with_reducible apply AQ.k_nil); first | (refine AQ.nil (hQ' _ ?_); clear hQ' Q') | refine AQ.nil ?_)
    | ((with_reducible apply CP.k_drw); refine cp_drw (by kernel_rfl) (by kernel_rfl) fun Q' hQ' => ?_)
    | ((with_reducible apply CP.k_drw1); refine cp_draw (by kernel_rfl) (by kernel_rfl) ?_)
    | ((with_reducible apply CP.k_reg); refine cp_regG fun Q' hQ' => ?_)
      | (with_reducible apply CP.k_reg1; refine cp_region ?_)
      | ((with_reducible apply CP.k_cond); first
          | refine cp_condT rfl ?_
          | refine cp_condF rfl ?_
          | refine cp_cond rfl (fun hc => ?_) (fun hc => ?_))
      | (with_reducible first | refine cp_block ?_ | refine cp_exit ?_ | refine cp_ret ?_ | refine cp_skip ?_ | refine cp_seq ?_ | refine inB_hit ?_ | refine inB_n ?_ | refine inB_r ?_ | refine thenQ_n ?_ | refine thenQ_r ?_ | refine thenQ_e ?_ | refine cpn_succ ?_)
      | (refine inB_miss rfl ?_))
  · apply RetQ.mk (ks := []) (by first | exact .inr rfl | exact .inl rfl)
    case hl => (repeat' (first | exact ResL.nil | apply ResL.cons (Res1.row rfl rfl rfl rfl rfl) | apply ResL.cons (Res1.flat rfl rfl rfl rfl rfl) | apply ResL.cons (Res1.tmp (by (try simp only [List.getD_cons_succ, List.getD_cons_zero]); exact rfl))))
    case hc => (repeat' (first | exact ClsC.nil | exact ClsL.nil | apply ClsC.nl | apply ClsC.leaf rfl | apply ClsC.hd rfl | apply ClsC.fn | apply ClsR.tu | apply ClsL.cons | apply ClsV.ag | exact ClsV.bp | exact ClsV.one (ClsC.leaf rfl ClsC.nil) | exact ClsV.one (ClsC.nl ClsC.nil) | exact ClsV.one (ClsC.hd rfl ClsC.nil) | apply ClsR.one))
    case hr => (repeat' (first | exact RnV.leaf rfl | exact RnC.nil | apply RnC.cons | apply RnV.ag | apply RnV.tu | exact RnV.bp rfl))
    case ho => (repeat' (first | exact Out.nil | apply Out.cons rfl | exact ClsC.nil | apply ClsC.nl | apply ClsC.leaf rfl | apply ClsC.hd rfl | apply ClsC.fn | apply ClsC.fz rfl (ro_B _) | apply ClsC.fz rfl (ro_M _) | apply ClsC.fz rfl (ro_E _ _) | apply ClsC.fz rfl rfl))
    case hk => exact hks_of rfl
    case hq => (try dsimp only [resV, List.getD_cons_succ, List.getD_cons_zero]); (have h : ¬ a = b := by rintro rfl; simp at hc); exact ⟨by simp [h], rfl⟩
  · have hl : a.length = b.length := by simp at hc; omega
    refine cp_loopW (fun n s => ∃ k : Nat, k ≤ a.length ∧ n = a.length - k ∧ a.take k = b.take k ∧ s = ⟨tm 26 [(0, bs none a), (1, bs none b), (4, B false), (5, I k)], []⟩) a.length ⟨tm 26 [(0, bs none a), (1, bs none b), (4, B false), (5, I (0 : Nat))], []⟩ (by simp only [tm, List.foldl_cons, List.foldl_nil, List.replicate_succ, List.replicate_zero, List.set_cons_succ, List.set_cons_zero, Nat.reduceAdd]; (refine ⟨?_, ?_⟩ <;> (try dsimp only) <;> (repeat' (first | exact Wk.nil | exact WkB.nil | apply Wk.same | apply Wk.de | apply Wk.nl | apply WkB.same | apply WkB.drop)))) ⟨0, by omega, by omega, by simp, rfl⟩ ?_
    rintro n s ⟨k, hk, rfl, he, rfl⟩
    simp only [tm, List.foldl_cons, List.foldl_nil, List.replicate_succ, List.replicate_zero, List.set_cons_succ, List.set_cons_zero, Nat.reduceAdd]
    by_cases hlt : k < a.length
    · have hx : (a.map eB)[k]? = some (eB a[k]) := by simp [hlt]
      have hy : (b.map eB)[k]? = some (eB (b[k]'(by omega))) := by simp [show k < b.length by omega]
      have hw : IntKind.i64.wrap ((k : Int) + 1) = ((k + 1 : Nat) : Int) := wrap_i64 (by omega) (by omega)
      repeat' (first
        | ((first
        | ((with_reducible apply AP.k_any); first
                 | (refine AP.s1 rfl ?_ ?_; focus ((repeat' (with_reducible apply And.intro)) <;> (first | exact True.intro | exact rfl | omega | (simp; omega) | (simp; done) | assumption)))
                 | (refine AP.s2 rfl ?_ ?_; focus ((repeat' (with_reducible apply And.intro)) <;> (first | exact True.intro | exact rfl | omega | (simp; omega) | (simp; done) | assumption)))
                 | refine AP.pure rfl (pq_load1_rp rfl rfl rfl rfl (by (first | (refine ⟨?_, ?_⟩; assumption; rfl) | exact ⟨mapAt (by (first | omega | (simp; omega) | (simp; done) | assumption)), rfl⟩ | exact ⟨rfl, rfl⟩))) ?_ | refine AP.pure rfl (pq_loadN_rp rfl rfl rfl rfl (by (first | (refine ⟨?_, ?_⟩; assumption; rfl) | exact ⟨mapAt (by (first | omega | (simp; omega) | (simp; done) | assumption)), rfl⟩ | exact ⟨rfl, rfl⟩))) ?_ | refine AP.pure rfl (pq_load1_ep rfl rfl rfl rfl rfl (by (first | (refine ⟨?_, ?_⟩; assumption; rfl) | exact ⟨mapAt (by (first | omega | (simp; omega) | (simp; done) | assumption)), rfl⟩ | exact ⟨rfl, rfl⟩))) ?_ | refine AP.pure rfl (pq_loadN_ep rfl rfl rfl rfl rfl (by (first | (refine ⟨?_, ?_⟩; assumption; rfl) | exact ⟨mapAt (by (first | omega | (simp; omega) | (simp; done) | assumption)), rfl⟩ | exact ⟨rfl, rfl⟩))) ?_
                 | (refine ap_nilsl rfl rfl rfl rfl rfl rfl (by first | exact .inl rfl | exact .inr rfl) (fun c hnil => ?_); simp only [nz])
          )
        
        | ((with_reducible apply AQ.k_any); first
                        | (refine AQ.s1 rfl ?_ ?_; focus ((repeat' (with_reducible apply And.intro)) <;> (first | exact True.intro | exact rfl | omega | (simp; omega) | (simp; done) | assumption)))
                        | (refine AQ.s2 rfl ?_ ?_; focus ((repeat' (with_reducible apply And.intro)) <;> (first | exact True.intro | exact rfl | omega | (simp; omega) | (simp; done) | assumption)))
                        | refine AQ.pure rfl (pq_load1_rp rfl rfl rfl rfl (by (first | (refine ⟨?_, ?_⟩; assumption; rfl) | exact ⟨mapAt (by (first | omega | (simp; omega) | (simp; done) | assumption)), rfl⟩ | exact ⟨rfl, rfl⟩))) ?_ | refine AQ.pure rfl (pq_loadN_rp rfl rfl rfl rfl (by (first | (refine ⟨?_, ?_⟩; assumption; rfl) | exact ⟨mapAt (by (first | omega | (simp; omega) | (simp; done) | assumption)), rfl⟩ | exact ⟨rfl, rfl⟩))) ?_ | refine AQ.pure rfl (pq_load1_ep rfl rfl rfl rfl rfl (by (first | (refine ⟨?_, ?_⟩; assumption; rfl) | exact ⟨mapAt (by (first | omega | (simp; omega) | (simp; done) | assumption)), rfl⟩ | exact ⟨rfl, rfl⟩))) ?_ | refine AQ.pure rfl (pq_loadN_ep rfl rfl rfl rfl rfl (by (first | (refine ⟨?_, ?_⟩; assumption; rfl) | exact ⟨mapAt (by (first | omega | (simp; omega) | (simp; done) | assumption)), rfl⟩ | exact ⟨rfl, rfl⟩))) ?_
          )
        )
          <;> (try simp only [nm, newS, plc, spl, bldA, bldS, zrow, chunks, ZC.val, Nat.reduceAdd, Nat.reduceSub, BEq.rfl]))
        | ((with_reducible apply AP.k_nil); first
            | (refine AP.nil (hQ' _ ?_); clear hQ' Q')
            | refine AP.nil ?_)
        | ((with_reducible apply AQ.k_nil); first | (refine AQ.nil (hQ' _ ?_); clear hQ' Q') | refine AQ.nil ?_)
        | ((with_reducible apply CP.k_drw); refine cp_drw (by kernel_rfl) (by kernel_rfl) fun Q' hQ' => ?_)
        | ((with_reducible apply CP.k_drw1); refine cp_draw (by kernel_rfl) (by kernel_rfl) ?_)
        | ((with_reducible apply CP.k_reg); refine cp_regG fun Q' hQ' => ?_)
          | (with_reducible apply CP.k_reg1; refine cp_region ?_)
          | ((with_reducible apply CP.k_cond); first
              | refine cp_condT rfl ?_
              | refine cp_condF rfl ?_
              | refine cp_cond rfl (fun hc => ?_) (fun hc => ?_))
          | (with_reducible first | refine cp_block ?_ | refine cp_exit ?_ | refine cp_ret ?_ | refine cp_skip ?_ | refine cp_seq ?_ | refine inB_hit ?_ | refine inB_n ?_ | refine inB_r ?_ | refine thenQ_n ?_ | refine thenQ_r ?_ | refine thenQ_e ?_ | refine cpn_succ ?_)
          | (refine inB_miss rfl ?_))
      · apply RetQ.mk (ks := []) (by first | exact .inr rfl | exact .inl rfl)
        case hl => (repeat' (first | exact ResL.nil | apply ResL.cons (Res1.row rfl rfl rfl rfl rfl) | apply ResL.cons (Res1.flat rfl rfl rfl rfl rfl) | apply ResL.cons (Res1.tmp (by (try simp only [List.getD_cons_succ, List.getD_cons_zero]); exact rfl))))
        case hc => (repeat' (first | exact ClsC.nil | exact ClsL.nil | apply ClsC.nl | apply ClsC.leaf rfl | apply ClsC.hd rfl | apply ClsC.fn | apply ClsR.tu | apply ClsL.cons | apply ClsV.ag | exact ClsV.bp | exact ClsV.one (ClsC.leaf rfl ClsC.nil) | exact ClsV.one (ClsC.nl ClsC.nil) | exact ClsV.one (ClsC.hd rfl ClsC.nil) | apply ClsR.one))
        case hr => (repeat' (first | exact RnV.leaf rfl | exact RnC.nil | apply RnC.cons | apply RnV.ag | apply RnV.tu | exact RnV.bp rfl))
        case ho => (repeat' (first | exact Out.nil | apply Out.cons rfl | exact ClsC.nil | apply ClsC.nl | apply ClsC.leaf rfl | apply ClsC.hd rfl | apply ClsC.fn | apply ClsC.fz rfl (ro_B _) | apply ClsC.fz rfl (ro_M _) | apply ClsC.fz rfl (ro_E _ _) | apply ClsC.fz rfl rfl))
        case hk => exact hks_of rfl
        case hq => (try dsimp only [resV, List.getD_cons_succ, List.getD_cons_zero]); (have h : ¬ a = b := by rintro rfl; simp at hc); exact ⟨by simp [h], rfl⟩
      · simp only [hw]
        refine ⟨a.length - (k + 1), ⟨tm 26 [(0, bs none a), (1, bs none b), (4, B false), (5, I (k + 1 : Nat))], []⟩, by omega, (by simp only [tm, List.foldl_cons, List.foldl_nil, List.replicate_succ, List.replicate_zero, List.set_cons_succ, List.set_cons_zero, Nat.reduceAdd]; (refine ⟨?_, ?_⟩ <;> (try dsimp only) <;> (repeat' (first | exact Wk.nil | exact WkB.nil | apply Wk.same | apply Wk.de | apply Wk.nl | apply WkB.same | apply WkB.drop)))), k + 1, by omega, rfl, ?_, rfl⟩
        rename_i hc
        have : a[k] = b[k]'(by omega) := by
          simp at hc
          exact UInt8.toNat_inj.1 (by omega)
        rw [List.take_succ_eq_append_getElem hlt, List.take_succ_eq_append_getElem (by omega), he, this]
      · exfalso; simp at *; omega
    · have hk' : k = a.length := by omega
      have hab : a = b := by
        rw [hk', List.take_of_length_le (Nat.le_refl _), List.take_of_length_le (by omega)] at he; exact he
      subst hab
      repeat' (first
        | ((first
        | ((with_reducible apply AP.k_any); first
                 | (refine AP.s1 rfl ?_ ?_; focus ((repeat' (with_reducible apply And.intro)) <;> (first | exact True.intro | exact rfl | omega | (simp; omega) | (simp; done) | assumption)))
                 | (refine AP.s2 rfl ?_ ?_; focus ((repeat' (with_reducible apply And.intro)) <;> (first | exact True.intro | exact rfl | omega | (simp; omega) | (simp; done) | assumption)))
                 | refine AP.pure rfl (pq_load1_rp rfl rfl rfl rfl (by (first | (refine ⟨?_, ?_⟩; assumption; rfl) | exact ⟨mapAt (by (first | omega | (simp; omega) | (simp; done) | assumption)), rfl⟩ | exact ⟨rfl, rfl⟩))) ?_ | refine AP.pure rfl (pq_loadN_rp rfl rfl rfl rfl (by (first | (refine ⟨?_, ?_⟩; assumption; rfl) | exact ⟨mapAt (by (first | omega | (simp; omega) | (simp; done) | assumption)), rfl⟩ | exact ⟨rfl, rfl⟩))) ?_ | refine AP.pure rfl (pq_load1_ep rfl rfl rfl rfl rfl (by (first | (refine ⟨?_, ?_⟩; assumption; rfl) | exact ⟨mapAt (by (first | omega | (simp; omega) | (simp; done) | assumption)), rfl⟩ | exact ⟨rfl, rfl⟩))) ?_ | refine AP.pure rfl (pq_loadN_ep rfl rfl rfl rfl rfl (by (first | (refine ⟨?_, ?_⟩; assumption; rfl) | exact ⟨mapAt (by (first | omega | (simp; omega) | (simp; done) | assumption)), rfl⟩ | exact ⟨rfl, rfl⟩))) ?_
                 | (refine ap_nilsl rfl rfl rfl rfl rfl rfl (by first | exact .inl rfl | exact .inr rfl) (fun c hnil => ?_); simp only [nz])
          )
        
        | ((with_reducible apply AQ.k_any); first
                        | (refine AQ.s1 rfl ?_ ?_; focus ((repeat' (with_reducible apply And.intro)) <;> (first | exact True.intro | exact rfl | omega | (simp; omega) | (simp; done) | assumption)))
                        | (refine AQ.s2 rfl ?_ ?_; focus ((repeat' (with_reducible apply And.intro)) <;> (first | exact True.intro | exact rfl | omega | (simp; omega) | (simp; done) | assumption)))
                        | refine AQ.pure rfl (pq_load1_rp rfl rfl rfl rfl (by (first | (refine ⟨?_, ?_⟩; assumption; rfl) | exact ⟨mapAt (by (first | omega | (simp; omega) | (simp; done) | assumption)), rfl⟩ | exact ⟨rfl, rfl⟩))) ?_ | refine AQ.pure rfl (pq_loadN_rp rfl rfl rfl rfl (by (first | (refine ⟨?_, ?_⟩; assumption; rfl) | exact ⟨mapAt (by (first | omega | (simp; omega) | (simp; done) | assumption)), rfl⟩ | exact ⟨rfl, rfl⟩))) ?_ | refine AQ.pure rfl (pq_load1_ep rfl rfl rfl rfl rfl (by (first | (refine ⟨?_, ?_⟩; assumption; rfl) | exact ⟨mapAt (by (first | omega | (simp; omega) | (simp; done) | assumption)), rfl⟩ | exact ⟨rfl, rfl⟩))) ?_ | refine AQ.pure rfl (pq_loadN_ep rfl rfl rfl rfl rfl (by (first | (refine ⟨?_, ?_⟩; assumption; rfl) | exact ⟨mapAt (by (first | omega | (simp; omega) | (simp; done) | assumption)), rfl⟩ | exact ⟨rfl, rfl⟩))) ?_
          )
        )
          <;> (try simp only [nm, newS, plc, spl, bldA, bldS, zrow, chunks, ZC.val, Nat.reduceAdd, Nat.reduceSub, BEq.rfl]))
        | ((with_reducible apply AP.k_nil); first
            | (refine AP.nil (hQ' _ ?_); clear hQ' Q')
            | refine AP.nil ?_)
        | ((with_reducible apply AQ.k_nil); first | (refine AQ.nil (hQ' _ ?_); clear hQ' Q') | refine AQ.nil ?_)
        | ((with_reducible apply CP.k_drw); refine cp_drw (by kernel_rfl) (by kernel_rfl) fun Q' hQ' => ?_)
        | ((with_reducible apply CP.k_drw1); refine cp_draw (by kernel_rfl) (by kernel_rfl) ?_)
        | ((with_reducible apply CP.k_reg); refine cp_regG fun Q' hQ' => ?_)
          | (with_reducible apply CP.k_reg1; refine cp_region ?_)
          | ((with_reducible apply CP.k_cond); first
              | refine cp_condT rfl ?_
              | refine cp_condF rfl ?_
              | refine cp_cond rfl (fun hc => ?_) (fun hc => ?_))
          | (with_reducible first | refine cp_block ?_ | refine cp_exit ?_ | refine cp_ret ?_ | refine cp_skip ?_ | refine cp_seq ?_ | refine inB_hit ?_ | refine inB_n ?_ | refine inB_r ?_ | refine thenQ_n ?_ | refine thenQ_r ?_ | refine thenQ_e ?_ | refine cpn_succ ?_)
          | (refine inB_miss rfl ?_))
      all_goals first
        | (exfalso; simp at *; omega)
        | apply RetQ.mk (ks := []) (by first | exact .inr rfl | exact .inl rfl)
          case hl => (repeat' (first | exact ResL.nil | apply ResL.cons (Res1.row rfl rfl rfl rfl rfl) | apply ResL.cons (Res1.flat rfl rfl rfl rfl rfl) | apply ResL.cons (Res1.tmp (by (try simp only [List.getD_cons_succ, List.getD_cons_zero]); exact rfl))))
          case hc => (repeat' (first | exact ClsC.nil | exact ClsL.nil | apply ClsC.nl | apply ClsC.leaf rfl | apply ClsC.hd rfl | apply ClsC.fn | apply ClsR.tu | apply ClsL.cons | apply ClsV.ag | exact ClsV.bp | exact ClsV.one (ClsC.leaf rfl ClsC.nil) | exact ClsV.one (ClsC.nl ClsC.nil) | exact ClsV.one (ClsC.hd rfl ClsC.nil) | apply ClsR.one))
          case hr => (repeat' (first | exact RnV.leaf rfl | exact RnC.nil | apply RnC.cons | apply RnV.ag | apply RnV.tu | exact RnV.bp rfl))
          case ho => (repeat' (first | exact Out.nil | apply Out.cons rfl | exact ClsC.nil | apply ClsC.nl | apply ClsC.leaf rfl | apply ClsC.hd rfl | apply ClsC.fn | apply ClsC.fz rfl (ro_B _) | apply ClsC.fz rfl (ro_M _) | apply ClsC.fz rfl (ro_E _ _) | apply ClsC.fz rfl rfl))
          case hk => exact hks_of rfl
          case hq => (try dsimp only [resV, List.getD_cons_succ, List.getD_cons_zero]); exact ⟨by simp, rfl⟩
theorem cat_ac (a b : List UInt8) (ha : a.length ≤ 100000000) (hb : b.length ≤ 100000000) :
    AC Try.prog 97 [bs none a, bs none b] [] (fun v bs' => v = bs (some tU) (a ++ b) ∧ bs' = []) := by
  refine AC.enter Try.func97 rfl rfl Try.ntmps97 (fl1_all rfl) (by (repeat' (first | exact Bk.nil | apply Bk.cons rfl rfl rfl))) ?_
  intro X
  simp only [nm, newS, plc, spl, bldA, bldS, zrow, chunks, ZC.val, Nat.reduceAdd, Nat.reduceSub, BEq.rfl]
  repeat' (first
    | ((first
    | ((with_reducible apply AP.k_any); first
             | (refine AP.s1 rfl ?_ ?_; focus ((repeat' (with_reducible apply And.intro)) <;> (first | exact True.intro | exact rfl | omega | (simp; omega) | (simp; done) | assumption)))
             | refine ap_appendO rfl rfl rfl rfl rfl rfl rfl rfl rfl rfl rfl (by (first | omega | (simp; omega) | (simp; done) | assumption)) (.inl ⟨rfl, rfl⟩) ?_ | refine ap_appendO rfl rfl rfl rfl rfl rfl rfl rfl rfl rfl rfl (by (first | omega | (simp; omega) | (simp; done) | assumption)) (.inr ⟨_, _, rfl, rfl, rfl, rfl⟩) ?_
             | refine ap_appendN rfl rfl rfl rfl rfl rfl rfl rfl rfl rfl (.inl ⟨rfl, rfl⟩) (by (first | omega | (simp; omega) | (simp; done) | assumption)) ?_ | refine ap_appendN rfl rfl rfl rfl rfl rfl rfl rfl rfl rfl (.inr ⟨_, _, rfl, rfl, rfl⟩) (by (first | omega | (simp; omega) | (simp; done) | assumption)) ?_
             | refine ap_appendF rfl rfl rfl rfl rfl rfl rfl rfl rfl rfl (.inl ⟨rfl, rfl⟩) (by (first | omega | (simp; omega) | (simp; done) | assumption)) (by first | exact .inl rfl | exact .inr (by (first | omega | (simp; omega) | (simp; done) | assumption))) ?_ | refine ap_appendF rfl rfl rfl rfl rfl rfl rfl rfl rfl rfl (.inr ⟨_, _, rfl, rfl, rfl⟩) (by (first | omega | (simp; omega) | (simp; done) | assumption)) (by first | exact .inl rfl | exact .inr (by (first | omega | (simp; omega) | (simp; done) | assumption))) ?_
             | refine ap_appendH rfl rfl rfl rfl rfl rfl rfl rfl rfl rfl rfl (by (first | omega | (simp; omega) | (simp; done) | assumption)) (by (first | omega | (simp; omega) | (simp; done) | assumption)) (.inr ⟨_, _, rfl, rfl, rfl, rfl⟩) ?_
      )
    
    
    )
      <;> (try simp only [nm, newS, plc, spl, bldA, bldS, zrow, chunks, ZC.val, Nat.reduceAdd, Nat.reduceSub, BEq.rfl]))
    | ((with_reducible apply AP.k_nil); first
        | (refine AP.nil (hQ' _ ?_); clear hQ' Q')
        | refine AP.nil ?_)
    | ((with_reducible apply CP.k_reg); refine cp_regG fun Q' hQ' => ?_)
      | (with_reducible apply CP.k_reg1; refine cp_region ?_)
      | ((with_reducible apply CP.k_cond); first
          | refine cp_condT rfl ?_
          | refine cp_condF rfl ?_
          | refine cp_cond rfl (fun hc => ?_) (fun hc => ?_))
      | (with_reducible first | refine cp_block ?_ | refine cp_exit ?_ | refine cp_ret ?_ | refine cp_skip ?_ | refine cp_seq ?_ | refine inB_hit ?_ | refine inB_n ?_ | refine inB_r ?_ | refine thenQ_n ?_ | refine thenQ_r ?_ | refine thenQ_e ?_ | refine cpn_succ ?_)
      | (refine inB_miss rfl ?_))
  apply RetQ.mk (ks := []) (by first | exact .inr rfl | exact .inl rfl)
  case hl => (repeat' (first | exact ResL.nil | apply ResL.cons (Res1.row rfl rfl rfl rfl rfl) | apply ResL.cons (Res1.flat rfl rfl rfl rfl rfl) | apply ResL.cons (Res1.tmp (by (try simp only [List.getD_cons_succ, List.getD_cons_zero]); exact rfl))))
  case hc => (repeat' (first | exact ClsC.nil | exact ClsL.nil | apply ClsC.nl | apply ClsC.leaf rfl | apply ClsC.hd rfl | apply ClsC.fn | apply ClsR.tu | apply ClsL.cons | apply ClsV.ag | exact ClsV.bp | exact ClsV.one (ClsC.leaf rfl ClsC.nil) | exact ClsV.one (ClsC.nl ClsC.nil) | exact ClsV.one (ClsC.hd rfl ClsC.nil) | apply ClsR.one))
  case hr => (repeat' (first | exact RnV.leaf rfl | exact RnC.nil | apply RnC.cons | apply RnV.ag | apply RnV.tu | exact RnV.bp rfl))
  case ho => (repeat' (first | exact Out.nil | apply Out.cons rfl | exact ClsC.nil | apply ClsC.nl | apply ClsC.leaf rfl | apply ClsC.hd rfl | apply ClsC.fn | apply ClsC.fz rfl (ro_B _) | apply ClsC.fz rfl (ro_M _) | apply ClsC.fz rfl (ro_E _ _) | apply ClsC.fz rfl rfl))
  case hk => exact hks_of rfl
  case hq => (try dsimp only [resV, List.getD_cons_succ, List.getD_cons_zero]); exact ⟨by simp, rfl⟩
theorem copy_ac (a : List UInt8) (ha : a.length ≤ 100000000) :
    AC Try.prog 81 [bs none a] [] (fun v bs' => v = bs (some tU) a ∧ bs' = []) := by
  refine AC.enter Try.func81 rfl rfl Try.ntmps81 (fl1_all rfl) (by (repeat' (first | exact Bk.nil | apply Bk.cons rfl rfl rfl))) ?_
  intro X
  simp only [nm, newS, plc, spl, bldA, bldS, zrow, chunks, ZC.val, Nat.reduceAdd, Nat.reduceSub, BEq.rfl]
  repeat' (first
    | ((first
    | ((with_reducible apply AP.k_any); first
             | (refine AP.s1 rfl ?_ ?_; focus ((repeat' (with_reducible apply And.intro)) <;> (first | exact True.intro | exact rfl | omega | (simp; omega) | (simp; done) | assumption)))
      )
    | ((with_reducible apply AP.k_any); refine ap_callX rfl rfl (fn := 97) rfl (cat_ac a [] ha (by simp)) (by (repeat' (first | exact PasC.nil | apply PasC.nil | apply PasC.cons | apply PasV.leaf rfl | apply PasV.nl | apply PasV.bp rfl | apply PasV.lend rfl rfl rfl | apply PasV.lend rfl rfl (ro_B _) | apply PasV.lend rfl rfl (ro_M _) | apply PasV.lend rfl rfl (ro_E _ _) | apply PasV.lend rfl rfl (ro_I _) | apply PasV.mv rfl | apply PasV.ag | apply PasV.fn | exact PasV.fs | apply PasV.any))) rfl rfl ?_)
    
    )
      <;> (try simp only [nm, newS, plc, spl, bldA, bldS, zrow, chunks, ZC.val, Nat.reduceAdd, Nat.reduceSub, BEq.rfl]))
    | ((with_reducible apply AP.k_nil); first
        | (refine AP.nil (hQ' _ ?_); clear hQ' Q')
        | refine AP.nil ?_)
    | ((with_reducible apply CP.k_reg); refine cp_regG fun Q' hQ' => ?_)
      | (with_reducible apply CP.k_reg1; refine cp_region ?_)
      | ((with_reducible apply CP.k_cond); first
          | refine cp_condT rfl ?_
          | refine cp_condF rfl ?_
          | refine cp_cond rfl (fun hc => ?_) (fun hc => ?_))
      | (with_reducible first | refine cp_block ?_ | refine cp_exit ?_ | refine cp_ret ?_ | refine cp_skip ?_ | refine cp_seq ?_ | refine inB_hit ?_ | refine inB_n ?_ | refine inB_r ?_ | refine thenQ_n ?_ | refine thenQ_r ?_ | refine thenQ_e ?_ | refine cpn_succ ?_)
      | (refine inB_miss rfl ?_))
  apply RetQ.mk (ks := []) (by first | exact .inr rfl | exact .inl rfl)
  case hl => (repeat' (first | exact ResL.nil | apply ResL.cons (Res1.row rfl rfl rfl rfl rfl) | apply ResL.cons (Res1.flat rfl rfl rfl rfl rfl) | apply ResL.cons (Res1.tmp (by (try simp only [List.getD_cons_succ, List.getD_cons_zero]); exact rfl))))
  case hc => (repeat' (first | exact ClsC.nil | exact ClsL.nil | apply ClsC.nl | apply ClsC.leaf rfl | apply ClsC.hd rfl | apply ClsC.fn | apply ClsR.tu | apply ClsL.cons | apply ClsV.ag | exact ClsV.bp | exact ClsV.one (ClsC.leaf rfl ClsC.nil) | exact ClsV.one (ClsC.nl ClsC.nil) | exact ClsV.one (ClsC.hd rfl ClsC.nil) | apply ClsR.one))
  case hr => (repeat' (first | exact RnV.leaf rfl | exact RnC.nil | apply RnC.cons | apply RnV.ag | apply RnV.tu | exact RnV.bp rfl))
  case ho => (repeat' (first | exact Out.nil | apply Out.cons rfl | exact ClsC.nil | apply ClsC.nl | apply ClsC.leaf rfl | apply ClsC.hd rfl | apply ClsC.fn | apply ClsC.fz rfl (ro_B _) | apply ClsC.fz rfl (ro_M _) | apply ClsC.fz rfl (ro_E _ _) | apply ClsC.fz rfl rfl))
  case hk => exact hks_of rfl
  case hq => (try dsimp only [resV, List.getD_cons_succ, List.getD_cons_zero]); exact ⟨by simp, rfl⟩
end Go.Proofs.Ytkdbedbefojieaa
