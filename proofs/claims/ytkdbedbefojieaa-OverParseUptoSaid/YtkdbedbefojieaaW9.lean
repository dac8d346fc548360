/-
  Records that may be.
-/
import Derived.Test.YtkdbedbefojieaaW8
namespace Go.Proofs.Ytkdbedbefojieaa
set_option linter.unusedVariables false
set_option linter.unusedSimpArgs false
set_option maxHeartbeats 8000000
open Go.RowKit
set_option maxRecDepth 100000
def ent0 : Entry := ⟨0, 0, 0, 0, []⟩
def book0 : Book := ⟨⟨0, []⟩, 0, false, 0⟩
def noB (r : Record) : Bool := r.book.cfg.epoch == 0 && r.book.cfg.members.length == 0 && r.book.since == 0 && !r.book.whole && r.book.upto == 0 && !r.drop
def noE (r : Record) : Bool := r.entry.pos == 0 && r.entry.stamp == 0 && r.entry.client == 0 && r.entry.id == 0 && r.entry.body.length == 0
def mayR (r : Record) : Bool :=
  if (r.kind.toNat : Int) = 1 then noE r && mayCfg r.book.cfg && decide (0 ≤ r.book.since) && decide (r.book.since ≤ r.book.cfg.epoch) && decide (0 ≤ r.book.upto)
  else if (r.kind.toNat : Int) = 2 then noB r && mayE r.entry
  else if (r.kind.toNat : Int) = 3 ∨ (r.kind.toNat : Int) = 4 then noB r && noE r else false
theorem noE_ac (r : Record) : AC Try.prog 53 [.ag (eR r)] [] (fun v bs => v = B (noE r) ∧ bs = []) := by
  refine AC.enter Try.func53 rfl rfl Try.ntmps53 (fl1_all rfl) (by (repeat' (first | exact Bk.nil | apply Bk.cons rfl rfl rfl))) ?_
  intro X
  simp only [nm, newS, plc, spl, bldA, bldS, zrow, chunks, ZC.val, Nat.reduceAdd, Nat.reduceSub, BEq.rfl]
  repeat' (first
    | ((first
    | ((with_reducible apply AP.k_any); first
             | (refine AP.s1 rfl ?_ ?_; focus ((repeat' (with_reducible apply And.intro)) <;> (first | exact True.intro | exact rfl | omega | (simp; omega) | (simp; done) | assumption)))
             | (refine AP.s2 rfl ?_ ?_; focus ((repeat' (with_reducible apply And.intro)) <;> (first | exact True.intro | exact rfl | omega | (simp; omega) | (simp; done) | assumption)))
             | (refine AP.gyes rfl rfl rfl ?_; dsimp only) | refine AP.gno rfl rfl rfl rfl ?_ | refine AP.gund rfl rfl rfl ?_ | (refine AP.gsplit rfl rfl rfl (fun hg => ?_) (fun hg => ?_))
             | refine ap_box rfl rfl rfl rfl ?_
             | refine ap_alloc rfl rfl rfl rfl ?_
             | refine ap_store rfl rfl rfl rfl rfl rfl rfl rfl rfl ?_
      )
    
    
    )
      <;> (try simp only [nm, newS, plc, spl, bldA, bldS, zrow, chunks, ZC.val, Nat.reduceAdd, Nat.reduceSub, BEq.rfl]))
    | ((with_reducible apply AP.k_nil); first
        | (refine AP.nil (hQ' _ ?_); clear hQ' Q')
        | refine AP.nil ?_)
    | ((with_reducible apply CP.k_reg); refine cp_regG fun Q' hQ' => ?_)
      | (with_reducible apply CP.k_reg1; refine cp_region ?_)
      | ((with_reducible apply CP.k_cond); first
          | refine cp_condT rfl ?_
          | refine cp_condF rfl ?_
          | refine cp_cond rfl (fun hc => ?_) (fun hc => ?_))
      | (with_reducible first | refine cp_block ?_ | refine cp_exit ?_ | refine cp_ret ?_ | refine cp_skip ?_ | refine cp_seq ?_ | refine inB_hit ?_ | refine inB_n ?_ | refine inB_r ?_ | refine thenQ_n ?_ | refine thenQ_r ?_ | refine thenQ_e ?_ | refine cpn_succ ?_)
      | (refine inB_miss rfl ?_))
  all_goals apply RetQ.mk (ks := []) (by first | exact .inr rfl | exact .inl rfl)
            case hl => (repeat' (first | exact ResL.nil | apply ResL.cons (Res1.row rfl rfl rfl rfl rfl) | apply ResL.cons (Res1.flat rfl rfl rfl rfl rfl) | apply ResL.cons (Res1.tmp (by (try simp only [List.getD_cons_succ, List.getD_cons_zero]); exact rfl))))
            case hc => (repeat' (first | exact ClsC.nil | exact ClsL.nil | apply ClsC.nl | apply ClsC.leaf rfl | apply ClsC.hd rfl | apply ClsC.fn | apply ClsR.tu | apply ClsL.cons | apply ClsV.ag | exact ClsV.bp | exact ClsV.one (ClsC.leaf rfl ClsC.nil) | exact ClsV.one (ClsC.nl ClsC.nil) | exact ClsV.one (ClsC.hd rfl ClsC.nil) | apply ClsR.one))
            case hr => (repeat' (first | exact RnV.leaf rfl | exact RnC.nil | apply RnC.cons | apply RnV.ag | apply RnV.tu | exact RnV.bp rfl))
            case ho => (repeat' (first | exact Out.nil | apply Out.cons rfl | exact ClsC.nil | apply ClsC.nl | apply ClsC.leaf rfl | apply ClsC.hd rfl | apply ClsC.fn | apply ClsC.fz rfl (ro_B _) | apply ClsC.fz rfl (ro_M _) | apply ClsC.fz rfl (ro_E _ _) | apply ClsC.fz rfl rfl))
            case hk => exact hks_of rfl
            case hq => (try dsimp only [resV, List.getD_cons_succ, List.getD_cons_zero]); (refine ⟨?_, rfl⟩; simp at *; simp [noE, *]; try (first | omega | (rw [Bool.eq_iff_iff]; simp)))
theorem noB_ac (r : Record) : AC Try.prog 55 [.ag (eR r)] [] (fun v bs => v = B (noB r) ∧ bs = []) := by
  refine AC.enter Try.func55 rfl rfl Try.ntmps55 (fl1_all rfl) (by (repeat' (first | exact Bk.nil | apply Bk.cons rfl rfl rfl))) ?_
  intro X
  simp only [nm, newS, plc, spl, bldA, bldS, zrow, chunks, ZC.val, Nat.reduceAdd, Nat.reduceSub, BEq.rfl]
  repeat' (first
    | ((first
    | ((with_reducible apply AP.k_any); first
             | (refine AP.s1 rfl ?_ ?_; focus ((repeat' (with_reducible apply And.intro)) <;> (first | exact True.intro | exact rfl | omega | (simp; omega) | (simp; done) | assumption)))
             | (refine AP.s2 rfl ?_ ?_; focus ((repeat' (with_reducible apply And.intro)) <;> (first | exact True.intro | exact rfl | omega | (simp; omega) | (simp; done) | assumption)))
             | (refine AP.gyes rfl rfl rfl ?_; dsimp only) | refine AP.gno rfl rfl rfl rfl ?_ | refine AP.gund rfl rfl rfl ?_ | (refine AP.gsplit rfl rfl rfl (fun hg => ?_) (fun hg => ?_))
             | refine ap_box rfl rfl rfl rfl ?_
             | refine ap_alloc rfl rfl rfl rfl ?_
             | refine ap_store rfl rfl rfl rfl rfl rfl rfl rfl rfl ?_
      )
    
    
    )
      <;> (try simp only [nm, newS, plc, spl, bldA, bldS, zrow, chunks, ZC.val, Nat.reduceAdd, Nat.reduceSub, BEq.rfl]))
    | ((with_reducible apply AP.k_nil); first
        | (refine AP.nil (hQ' _ ?_); clear hQ' Q')
        | refine AP.nil ?_)
    | ((with_reducible apply CP.k_reg); refine cp_regG fun Q' hQ' => ?_)
      | (with_reducible apply CP.k_reg1; refine cp_region ?_)
      | ((with_reducible apply CP.k_cond); first
          | refine cp_condT rfl ?_
          | refine cp_condF rfl ?_
          | refine cp_cond rfl (fun hc => ?_) (fun hc => ?_))
      | (with_reducible first | refine cp_block ?_ | refine cp_exit ?_ | refine cp_ret ?_ | refine cp_skip ?_ | refine cp_seq ?_ | refine inB_hit ?_ | refine inB_n ?_ | refine inB_r ?_ | refine thenQ_n ?_ | refine thenQ_r ?_ | refine thenQ_e ?_ | refine cpn_succ ?_)
      | (refine inB_miss rfl ?_))
  all_goals apply RetQ.mk (ks := []) (by first | exact .inr rfl | exact .inl rfl)
            case hl => (repeat' (first | exact ResL.nil | apply ResL.cons (Res1.row rfl rfl rfl rfl rfl) | apply ResL.cons (Res1.flat rfl rfl rfl rfl rfl) | apply ResL.cons (Res1.tmp (by (try simp only [List.getD_cons_succ, List.getD_cons_zero]); exact rfl))))
            case hc => (repeat' (first | exact ClsC.nil | exact ClsL.nil | apply ClsC.nl | apply ClsC.leaf rfl | apply ClsC.hd rfl | apply ClsC.fn | apply ClsR.tu | apply ClsL.cons | apply ClsV.ag | exact ClsV.bp | exact ClsV.one (ClsC.leaf rfl ClsC.nil) | exact ClsV.one (ClsC.nl ClsC.nil) | exact ClsV.one (ClsC.hd rfl ClsC.nil) | apply ClsR.one))
            case hr => (repeat' (first | exact RnV.leaf rfl | exact RnC.nil | apply RnC.cons | apply RnV.ag | apply RnV.tu | exact RnV.bp rfl))
            case ho => (repeat' (first | exact Out.nil | apply Out.cons rfl | exact ClsC.nil | apply ClsC.nl | apply ClsC.leaf rfl | apply ClsC.hd rfl | apply ClsC.fn | apply ClsC.fz rfl (ro_B _) | apply ClsC.fz rfl (ro_M _) | apply ClsC.fz rfl (ro_E _ _) | apply ClsC.fz rfl rfl))
            case hk => exact hks_of rfl
            case hq => (try dsimp only [resV, List.getD_cons_succ, List.getD_cons_zero]); (refine ⟨?_, rfl⟩; simp at *; simp [noB, *]; try omega)
theorem mayR_ac (r : Record) (hl : r.book.cfg.members.length ≤ 100000000) : AC Try.prog 28 [.ag (eR r)] [] (fun v bs => v = B (mayR r) ∧ bs = []) := by
  refine AC.enter Try.func28 rfl rfl Try.ntmps28 (fl1_all rfl) (by (repeat' (first | exact Bk.nil | apply Bk.cons rfl rfl rfl))) ?_
  intro X
  simp only [nm, newS, plc, spl, bldA, bldS, zrow, chunks, ZC.val, Nat.reduceAdd, Nat.reduceSub, BEq.rfl]
  repeat' (first
    | ((first
    | ((with_reducible apply AP.k_any); first
             | (refine AP.s1 rfl ?_ ?_; focus ((repeat' (with_reducible apply And.intro)) <;> (first | exact True.intro | exact rfl | omega | (simp; omega) | (simp; done) | assumption)))
             | (refine AP.gyes rfl rfl rfl ?_; dsimp only) | refine AP.gno rfl rfl rfl rfl ?_ | refine AP.gund rfl rfl rfl ?_ | (refine AP.gsplit rfl rfl rfl (fun hg => ?_) (fun hg => ?_))
             | refine ap_box rfl rfl rfl rfl ?_
             | refine ap_alloc rfl rfl rfl rfl ?_
             | refine ap_store rfl rfl rfl rfl rfl rfl rfl rfl rfl ?_
      )
    | ((with_reducible apply AP.k_any); refine ap_callX rfl rfl (fn := 53) rfl (noE_ac r) (by (repeat' (first | exact PasC.nil | apply PasC.nil | apply PasC.cons | apply PasV.leaf rfl | apply PasV.nl | apply PasV.bp rfl | apply PasV.lend rfl rfl rfl | apply PasV.lend rfl rfl (ro_B _) | apply PasV.lend rfl rfl (ro_M _) | apply PasV.lend rfl rfl (ro_E _ _) | apply PasV.lend rfl rfl (ro_I _) | apply PasV.mv rfl | apply PasV.ag | apply PasV.fn | exact PasV.fs | apply PasV.any))) rfl rfl ?_)
    | ((with_reducible apply AP.k_any); refine ap_callX rfl rfl (fn := 55) rfl (noB_ac r) (by (repeat' (first | exact PasC.nil | apply PasC.nil | apply PasC.cons | apply PasV.leaf rfl | apply PasV.nl | apply PasV.bp rfl | apply PasV.lend rfl rfl rfl | apply PasV.lend rfl rfl (ro_B _) | apply PasV.lend rfl rfl (ro_M _) | apply PasV.lend rfl rfl (ro_E _ _) | apply PasV.lend rfl rfl (ro_I _) | apply PasV.mv rfl | apply PasV.ag | apply PasV.fn | exact PasV.fs | apply PasV.any))) rfl rfl ?_)
    | ((with_reducible apply AP.k_any); refine ap_callX rfl rfl (fn := 54) rfl (mayConfig_ac r.book.cfg hl) (by (repeat' (first | exact PasC.nil | apply PasC.nil | apply PasC.cons | apply PasV.leaf rfl | apply PasV.nl | apply PasV.bp rfl | apply PasV.lend rfl rfl rfl | apply PasV.lend rfl rfl (ro_B _) | apply PasV.lend rfl rfl (ro_M _) | apply PasV.lend rfl rfl (ro_E _ _) | apply PasV.lend rfl rfl (ro_I _) | apply PasV.mv rfl | apply PasV.ag | apply PasV.fn | exact PasV.fs | apply PasV.any))) rfl rfl ?_)
    | ((with_reducible apply AP.k_any); refine ap_callX rfl rfl (fn := 56) rfl (mayEntry_ac r.entry) (by (repeat' (first | exact PasC.nil | apply PasC.nil | apply PasC.cons | apply PasV.leaf rfl | apply PasV.nl | apply PasV.bp rfl | apply PasV.lend rfl rfl rfl | apply PasV.lend rfl rfl (ro_B _) | apply PasV.lend rfl rfl (ro_M _) | apply PasV.lend rfl rfl (ro_E _ _) | apply PasV.lend rfl rfl (ro_I _) | apply PasV.mv rfl | apply PasV.ag | apply PasV.fn | exact PasV.fs | apply PasV.any))) rfl rfl ?_)
    )
      <;> (try simp only [nm, newS, plc, spl, bldA, bldS, zrow, chunks, ZC.val, Nat.reduceAdd, Nat.reduceSub, BEq.rfl]))
    | ((with_reducible apply AP.k_nil); first
        | (refine AP.nil (hQ' _ ?_); clear hQ' Q')
        | refine AP.nil ?_)
    | ((with_reducible apply CP.k_reg); refine cp_regG fun Q' hQ' => ?_)
      | (with_reducible apply CP.k_reg1; refine cp_region ?_)
      | ((with_reducible apply CP.k_cond); first
          | refine cp_condT rfl ?_
          | refine cp_condF rfl ?_
          | refine cp_cond rfl (fun hc => ?_) (fun hc => ?_))
      | (with_reducible first | refine cp_block ?_ | refine cp_exit ?_ | refine cp_ret ?_ | refine cp_skip ?_ | refine cp_seq ?_ | refine inB_hit ?_ | refine inB_n ?_ | refine inB_r ?_ | refine thenQ_n ?_ | refine thenQ_r ?_ | refine thenQ_e ?_ | refine cpn_succ ?_)
      | (refine inB_miss rfl ?_))
  all_goals apply RetQ.mk (ks := []) (by first | exact .inr rfl | exact .inl rfl)
            case hl => (repeat' (first | exact ResL.nil | apply ResL.cons (Res1.row rfl rfl rfl rfl rfl) | apply ResL.cons (Res1.flat rfl rfl rfl rfl rfl) | apply ResL.cons (Res1.tmp (by (try simp only [List.getD_cons_succ, List.getD_cons_zero]); exact rfl))))
            case hc => (repeat' (first | exact ClsC.nil | exact ClsL.nil | apply ClsC.nl | apply ClsC.leaf rfl | apply ClsC.hd rfl | apply ClsC.fn | apply ClsR.tu | apply ClsL.cons | apply ClsV.ag | exact ClsV.bp | exact ClsV.one (ClsC.leaf rfl ClsC.nil) | exact ClsV.one (ClsC.nl ClsC.nil) | exact ClsV.one (ClsC.hd rfl ClsC.nil) | apply ClsR.one))
            case hr => (repeat' (first | exact RnV.leaf rfl | exact RnC.nil | apply RnC.cons | apply RnV.ag | apply RnV.tu | exact RnV.bp rfl))
            case ho => (repeat' (first | exact Out.nil | apply Out.cons rfl | exact ClsC.nil | apply ClsC.nl | apply ClsC.leaf rfl | apply ClsC.hd rfl | apply ClsC.fn | apply ClsC.fz rfl (ro_B _) | apply ClsC.fz rfl (ro_M _) | apply ClsC.fz rfl (ro_E _ _) | apply ClsC.fz rfl rfl))
            case hk => exact hks_of rfl
            case hq => (try dsimp only [resV, List.getD_cons_succ, List.getD_cons_zero]); (refine ⟨?_, rfl⟩; simp at *; simp [mayR, *]; try omega)
end Go.Proofs.Ytkdbedbefojieaa
