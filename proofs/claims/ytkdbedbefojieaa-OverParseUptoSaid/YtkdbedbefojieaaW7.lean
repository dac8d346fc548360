/-
  Configurations that may be in a message; what they write.
-/
import Derived.Test.YtkdbedbefojieaaW6
namespace Go.Proofs.Ytkdbedbefojieaa
set_option linter.unusedVariables false
set_option linter.unusedSimpArgs false
set_option maxHeartbeats 8000000
open Go.RowKit
set_option maxRecDepth 100000
def pNode (n : Int) : Nat → Member → Bool := fun _ x => x.node != n
def pMem (c : Config) : Nat → Member → Bool := fun i m => decide (0 ≤ m.node) && decide (m.node < 5) && decide (1 ≤ m.since) && decide (m.since ≤ c.epoch) && allG (pNode m.node) 0 (c.members.take i)
def mayCfg (c : Config) : Bool := decide (1 ≤ c.epoch) && decide (c.members.length ≤ 5) && allG (pMem c) 0 c.members
theorem mc2_ac (i : Nat) (x m : Member) : AC Try.prog 92 [I i, .ag (eM x), .bp 0 0 0] [.c tM (eM m)] (fun v bs => v = B (pNode m.node i x) ∧ bs = [.c tM (eM m)]) := by
  refine AC.enter Try.func92 rfl rfl Try.ntmps92 (fl1_all rfl) (by (repeat' (first | exact Bk.nil | apply Bk.cons rfl rfl rfl))) ?_
  intro X
  simp only [nm, newS, plc, spl, bldA, bldS, zrow, chunks, ZC.val, Nat.reduceAdd, Nat.reduceSub, BEq.rfl]
  repeat' (first
    | ((first
    | ((with_reducible apply AP.k_any); first
             | (refine AP.s1 rfl ?_ ?_; focus ((repeat' (with_reducible apply And.intro)) <;> (first | exact True.intro | exact rfl | omega | (simp; omega) | (simp; done) | assumption)))
             | refine ap_box rfl rfl rfl rfl ?_
      )
    
    )
      <;> (try simp only [nm, newS, plc, spl, bldA, bldS, zrow, chunks, ZC.val, Nat.reduceAdd, Nat.reduceSub, BEq.rfl]))
    | ((with_reducible apply AP.k_nil); first
        | (refine AP.nil (hQ' _ ?_); clear hQ' Q')
        | refine AP.nil ?_)
    | ((with_reducible apply CP.k_reg); refine cp_regG fun Q' hQ' => ?_)
      | (with_reducible apply CP.k_reg1; refine cp_region ?_)
      | ((with_reducible apply CP.k_cond); first
          | refine cp_condT rfl ?_
          | refine cp_condF rfl ?_
          | refine cp_cond rfl (fun hc => ?_) (fun hc => ?_))
      | (with_reducible first | refine cp_block ?_ | refine cp_exit ?_ | refine cp_ret ?_ | refine cp_skip ?_ | refine cp_seq ?_ | refine inB_hit ?_ | refine inB_n ?_ | refine inB_r ?_ | refine thenQ_n ?_ | refine thenQ_r ?_ | refine thenQ_e ?_ | refine cpn_succ ?_)
      | (refine inB_miss rfl ?_))
  apply RetQ.mk (ks := [(0, 0)]) (by first | exact .inr rfl | exact .inl rfl)
  case hl => (repeat' (first | exact ResL.nil | apply ResL.cons (Res1.row rfl rfl rfl rfl rfl) | apply ResL.cons (Res1.flat rfl rfl rfl rfl rfl) | apply ResL.cons (Res1.tmp (by (try simp only [List.getD_cons_succ, List.getD_cons_zero]); exact rfl))))
  case hc => (repeat' (first | exact ClsC.nil | exact ClsL.nil | apply ClsC.nl | apply ClsC.leaf rfl | apply ClsC.hd rfl | apply ClsC.fn | apply ClsR.tu | apply ClsL.cons | apply ClsV.ag | exact ClsV.bp | exact ClsV.one (ClsC.leaf rfl ClsC.nil) | exact ClsV.one (ClsC.nl ClsC.nil) | exact ClsV.one (ClsC.hd rfl ClsC.nil) | apply ClsR.one))
  case hr => (repeat' (first | exact RnV.leaf rfl | exact RnC.nil | apply RnC.cons | apply RnV.ag | apply RnV.tu | exact RnV.bp rfl))
  case ho => (repeat' (first | exact Out.nil | apply Out.cons rfl | exact ClsC.nil | apply ClsC.nl | apply ClsC.leaf rfl | apply ClsC.hd rfl | apply ClsC.fn | apply ClsC.fz rfl (ro_B _) | apply ClsC.fz rfl (ro_M _) | apply ClsC.fz rfl (ro_E _ _) | apply ClsC.fz rfl rfl))
  case hk => exact hks_of rfl
  case hq => (try dsimp only [resV, List.getD_cons_succ, List.getD_cons_zero]); exact ⟨rfl, rfl⟩
theorem mc1_ac (c : Config) (i : Nat) (m : Member) (hi : i ≤ c.members.length) (hl : c.members.length ≤ 100000000) : AC Try.prog 91 [I i, .ag (eM m), .bp 0 0 0] [.c 24 (eC none c)] (fun v bs => v = B (pMem c i m) ∧ bs = [.c 24 (eC none c)]) := by
  have h := all2_ac 92 m (pNode m.node) (c.members.take i) (by simp; omega) (fun k hk => mc2_ac k _ m)
  refine AC.enter Try.func91 rfl rfl Try.ntmps91 (fl1_all rfl) (by (repeat' (first | exact Bk.nil | apply Bk.cons rfl rfl rfl))) ?_
  intro X
  simp only [nm, newS, plc, spl, bldA, bldS, zrow, chunks, ZC.val, Nat.reduceAdd, Nat.reduceSub, BEq.rfl]
  repeat' (first
    | ((first
    | ((with_reducible apply AP.k_any); first
             | (refine AP.s1 rfl ?_ ?_; focus ((repeat' (with_reducible apply And.intro)) <;> (first | exact True.intro | exact rfl | omega | (simp; omega) | (simp; done) | assumption)))
             | (refine AP.gyes rfl rfl rfl ?_; dsimp only) | refine AP.gno rfl rfl rfl rfl ?_ | refine AP.gund rfl rfl rfl ?_ | (refine AP.gsplit rfl rfl rfl (fun hg => ?_) (fun hg => ?_))
             | refine ap_box rfl rfl rfl rfl ?_
      )
    | ((with_reducible apply AP.k_any); refine ap_callB 0 [(1, 1)] rfl rfl (fn := 90) rfl (h) (by (repeat' (first | exact PasC.nil | apply PasC.nil | apply PasC.cons | apply PasV.leaf rfl | apply PasV.nl | apply PasV.bp rfl | apply PasV.lend rfl rfl rfl | apply PasV.lend rfl rfl (ro_B _) | apply PasV.lend rfl rfl (ro_M _) | apply PasV.lend rfl rfl (ro_E _ _) | apply PasV.lend rfl rfl (ro_I _) | apply PasV.mv rfl | apply PasV.ag | apply PasV.fn | exact PasV.fs | apply PasV.any))) (by (repeat' (first | exact Out.nil | apply Out.cons rfl | exact ClsC.nil | apply ClsC.nl | apply ClsC.leaf rfl | apply ClsC.hd rfl | apply ClsC.fn | apply ClsC.fz rfl (ro_B _) | apply ClsC.fz rfl (ro_M _) | apply ClsC.fz rfl (ro_E _ _) | apply ClsC.fz rfl rfl))) rfl (by (repeat' (first | exact Bk.nil | apply Bk.cons rfl rfl rfl))) (by (repeat' (first | exact RnV.leaf rfl | exact RnC.nil | apply RnC.cons | apply RnV.ag | apply RnV.tu | exact RnV.bp rfl))) rfl ?_)
    )
      <;> (try simp only [nm, newS, plc, spl, bldA, bldS, zrow, chunks, ZC.val, Nat.reduceAdd, Nat.reduceSub, BEq.rfl]))
    | ((with_reducible apply AP.k_nil); first
        | (refine AP.nil (hQ' _ ?_); clear hQ' Q')
        | refine AP.nil ?_)
    | ((with_reducible apply CP.k_reg); refine cp_regG fun Q' hQ' => ?_)
      | (with_reducible apply CP.k_reg1; refine cp_region ?_)
      | ((with_reducible apply CP.k_cond); first
          | refine cp_condT rfl ?_
          | refine cp_condF rfl ?_
          | refine cp_cond rfl (fun hc => ?_) (fun hc => ?_))
      | (with_reducible first | refine cp_block ?_ | refine cp_exit ?_ | refine cp_ret ?_ | refine cp_skip ?_ | refine cp_seq ?_ | refine inB_hit ?_ | refine inB_n ?_ | refine inB_r ?_ | refine thenQ_n ?_ | refine thenQ_r ?_ | refine thenQ_e ?_ | refine cpn_succ ?_)
      | (refine inB_miss rfl ?_))
  all_goals apply RetQ.mk (ks := [(0, 0)]) (by first | exact .inr rfl | exact .inl rfl)
            case hl => (repeat' (first | exact ResL.nil | apply ResL.cons (Res1.row rfl rfl rfl rfl rfl) | apply ResL.cons (Res1.flat rfl rfl rfl rfl rfl) | apply ResL.cons (Res1.tmp (by (try simp only [List.getD_cons_succ, List.getD_cons_zero]); exact rfl))))
            case hc => (repeat' (first | exact ClsC.nil | exact ClsL.nil | apply ClsC.nl | apply ClsC.leaf rfl | apply ClsC.hd rfl | apply ClsC.fn | apply ClsR.tu | apply ClsL.cons | apply ClsV.ag | exact ClsV.bp | exact ClsV.one (ClsC.leaf rfl ClsC.nil) | exact ClsV.one (ClsC.nl ClsC.nil) | exact ClsV.one (ClsC.hd rfl ClsC.nil) | apply ClsR.one))
            case hr => (repeat' (first | exact RnV.leaf rfl | exact RnC.nil | apply RnC.cons | apply RnV.ag | apply RnV.tu | exact RnV.bp rfl))
            case ho => (repeat' (first | exact Out.nil | apply Out.cons rfl | exact ClsC.nil | apply ClsC.nl | apply ClsC.leaf rfl | apply ClsC.hd rfl | apply ClsC.fn | apply ClsC.fz rfl (ro_B _) | apply ClsC.fz rfl (ro_M _) | apply ClsC.fz rfl (ro_E _ _) | apply ClsC.fz rfl rfl))
            case hk => exact hks_of rfl
            case hq => (try dsimp only [resV, List.getD_cons_succ, List.getD_cons_zero]); (refine ⟨?_, rfl⟩; simp at *; simp [pMem, *]; try omega)
theorem mayConfig_ac (c : Config) (hl : c.members.length ≤ 100000000) : AC Try.prog 54 [.ag (eC none c)] [] (fun v bs => v = B (mayCfg c) ∧ bs = []) := by
  have h := all1_ac 91 c (pMem c) c.members hl (fun k hk => mc1_ac c k _ (by omega) hl)
  refine AC.enter Try.func54 rfl rfl Try.ntmps54 (fl1_all rfl) (by (repeat' (first | exact Bk.nil | apply Bk.cons rfl rfl rfl))) ?_
  intro X
  simp only [nm, newS, plc, spl, bldA, bldS, zrow, chunks, ZC.val, Nat.reduceAdd, Nat.reduceSub, BEq.rfl]
  repeat' (first
    | ((first
    | ((with_reducible apply AP.k_any); first
             | (refine AP.s1 rfl ?_ ?_; focus ((repeat' (with_reducible apply And.intro)) <;> (first | exact True.intro | exact rfl | omega | (simp; omega) | (simp; done) | assumption)))
             | (refine AP.s2 rfl ?_ ?_; focus ((repeat' (with_reducible apply And.intro)) <;> (first | exact True.intro | exact rfl | omega | (simp; omega) | (simp; done) | assumption)))
             | (refine AP.gyes rfl rfl rfl ?_; dsimp only) | refine AP.gno rfl rfl rfl rfl ?_ | refine AP.gund rfl rfl rfl ?_ | (refine AP.gsplit rfl rfl rfl (fun hg => ?_) (fun hg => ?_))
             | refine ap_box rfl rfl rfl rfl ?_
      )
    | ((with_reducible apply AP.k_any); refine ap_callB 0 [(0, 1)] rfl rfl (fn := 90) rfl (h) (by (repeat' (first | exact PasC.nil | apply PasC.nil | apply PasC.cons | apply PasV.leaf rfl | apply PasV.nl | apply PasV.bp rfl | apply PasV.lend rfl rfl rfl | apply PasV.lend rfl rfl (ro_B _) | apply PasV.lend rfl rfl (ro_M _) | apply PasV.lend rfl rfl (ro_E _ _) | apply PasV.lend rfl rfl (ro_I _) | apply PasV.mv rfl | apply PasV.ag | apply PasV.fn | exact PasV.fs | apply PasV.any))) (by (repeat' (first | exact Out.nil | apply Out.cons rfl | exact ClsC.nil | apply ClsC.nl | apply ClsC.leaf rfl | apply ClsC.hd rfl | apply ClsC.fn | apply ClsC.fz rfl (ro_B _) | apply ClsC.fz rfl (ro_M _) | apply ClsC.fz rfl (ro_E _ _) | apply ClsC.fz rfl rfl))) rfl (by (repeat' (first | exact Bk.nil | apply Bk.cons rfl rfl rfl))) (by (repeat' (first | exact RnV.leaf rfl | exact RnC.nil | apply RnC.cons | apply RnV.ag | apply RnV.tu | exact RnV.bp rfl))) rfl ?_)
    )
      <;> (try simp only [nm, newS, plc, spl, bldA, bldS, zrow, chunks, ZC.val, Nat.reduceAdd, Nat.reduceSub, BEq.rfl]))
    | ((with_reducible apply AP.k_nil); first
        | (refine AP.nil (hQ' _ ?_); clear hQ' Q')
        | refine AP.nil ?_)
    | ((with_reducible apply CP.k_reg); refine cp_regG fun Q' hQ' => ?_)
      | (with_reducible apply CP.k_reg1; refine cp_region ?_)
      | ((with_reducible apply CP.k_cond); first
          | refine cp_condT rfl ?_
          | refine cp_condF rfl ?_
          | refine cp_cond rfl (fun hc => ?_) (fun hc => ?_))
      | (with_reducible first | refine cp_block ?_ | refine cp_exit ?_ | refine cp_ret ?_ | refine cp_skip ?_ | refine cp_seq ?_ | refine inB_hit ?_ | refine inB_n ?_ | refine inB_r ?_ | refine thenQ_n ?_ | refine thenQ_r ?_ | refine thenQ_e ?_ | refine cpn_succ ?_)
      | (refine inB_miss rfl ?_))
  all_goals apply RetQ.mk (ks := []) (by first | exact .inr rfl | exact .inl rfl)
            case hl => (repeat' (first | exact ResL.nil | apply ResL.cons (Res1.row rfl rfl rfl rfl rfl) | apply ResL.cons (Res1.flat rfl rfl rfl rfl rfl) | apply ResL.cons (Res1.tmp (by (try simp only [List.getD_cons_succ, List.getD_cons_zero]); exact rfl))))
            case hc => (repeat' (first | exact ClsC.nil | exact ClsL.nil | apply ClsC.nl | apply ClsC.leaf rfl | apply ClsC.hd rfl | apply ClsC.fn | apply ClsR.tu | apply ClsL.cons | apply ClsV.ag | exact ClsV.bp | exact ClsV.one (ClsC.leaf rfl ClsC.nil) | exact ClsV.one (ClsC.nl ClsC.nil) | exact ClsV.one (ClsC.hd rfl ClsC.nil) | apply ClsR.one))
            case hr => (repeat' (first | exact RnV.leaf rfl | exact RnC.nil | apply RnC.cons | apply RnV.ag | apply RnV.tu | exact RnV.bp rfl))
            case ho => (repeat' (first | exact Out.nil | apply Out.cons rfl | exact ClsC.nil | apply ClsC.nl | apply ClsC.leaf rfl | apply ClsC.hd rfl | apply ClsC.fn | apply ClsC.fz rfl (ro_B _) | apply ClsC.fz rfl (ro_M _) | apply ClsC.fz rfl (ro_E _ _) | apply ClsC.fz rfl rfl))
            case hk => exact hks_of rfl
            case hq => (try dsimp only [resV, List.getD_cons_succ, List.getD_cons_zero]); (refine ⟨?_, rfl⟩; simp at *; simp [mayCfg, *]; try omega)
/-- what an entry, a configuration writes -/
def putE (st : Bool × List UInt8) (e : Entry) : Bool × List UInt8 := addS (addS (addS (addS (addS (addS st (intS e.pos)) (intS e.stamp)) (intS e.client)) (intS e.id)) (putS e.body.length 4)) e.body
def putR (st : Bool × List UInt8) (e : Entry) : Bool × List UInt8 := addS (addS (addS (addS (addS st (intS e.stamp)) (intS e.client)) (intS e.id)) (putS e.body.length 4)) e.body
def putM (st : Bool × List UInt8) (m : Member) : Bool × List UInt8 := addS (addS (addS st (intS m.node)) (intS m.since)) (flagS m.whole)
def putC (st : Bool × List UInt8) (c : Config) : Bool × List UInt8 := c.members.foldl putM (addS (addS st (intS c.epoch)) (intS c.members.length))
theorem putRest_ac (st : Bool × List UInt8) (e : Entry) (hst : st.2.length ≤ 65536) (hb : e.body.length ≤ 100000000) :
    AC Try.prog 88 [.bp 0 0 0, .ag (eE none e)] [wB st] (fun v bs => v = .bp 0 0 0 ∧ bs = [wB (putR st e)]) := by
  have h1 := addS_len (st := st) (b := intS e.stamp) hst
  have h2 := addS_len (b := intS e.client) h1
  have h3 := addS_len (b := intS e.id) h2
  refine AC.enter Try.func88 rfl rfl Try.ntmps88 (fl1_all rfl) (by (repeat' (first | exact Bk.nil | apply Bk.cons rfl rfl rfl))) ?_
  intro X
  simp only [nm, newS, plc, spl, bldA, bldS, zrow, chunks, ZC.val, Nat.reduceAdd, Nat.reduceSub, BEq.rfl]
  repeat' (first
    | ((first
    | ((with_reducible apply AP.k_any); first
             | (refine AP.s1 rfl ?_ ?_; focus ((repeat' (with_reducible apply And.intro)) <;> (first | exact True.intro | exact rfl | omega | (simp; omega) | (simp; done) | assumption)))
             | refine ap_box rfl rfl rfl rfl ?_
      )
    
    )
      <;> (try simp only [nm, newS, plc, spl, bldA, bldS, zrow, chunks, ZC.val, Nat.reduceAdd, Nat.reduceSub, BEq.rfl]))
    | ((with_reducible apply AP.k_nil); first
        | (refine AP.nil (hQ' _ ?_); clear hQ' Q')
        | refine AP.nil ?_)
    | ((with_reducible apply CP.k_reg); refine cp_regG fun Q' hQ' => ?_)
      | (with_reducible apply CP.k_reg1; refine cp_region ?_)
      | ((with_reducible apply CP.k_cond); first
          | refine cp_condT rfl ?_
          | refine cp_condF rfl ?_
          | refine cp_cond rfl (fun hc => ?_) (fun hc => ?_))
      | (with_reducible first | refine cp_block ?_ | refine cp_exit ?_ | refine cp_ret ?_ | refine cp_skip ?_ | refine cp_seq ?_ | refine inB_hit ?_ | refine inB_n ?_ | refine inB_r ?_ | refine thenQ_n ?_ | refine thenQ_r ?_ | refine thenQ_e ?_ | refine cpn_succ ?_)
      | (refine inB_miss rfl ?_))
  refine cp_drawI (fun zs zb => ⟨setT zs.t [(5, cond (zb.getD 0 false) (.bp 0 0 0) (.tu [])), (6, cond (zb.getD 1 false) (.bp 2 1 1) (.tu [])), (7, cond (zb.getD 2 false) (I e.stamp) (.tu [])), (8, cond (zb.getD 3 false) (.bp 0 0 0) (.tu [])), (9, cond (zb.getD 4 false) (.bp 2 1 2) (.tu [])), (10, cond (zb.getD 5 false) (I e.client) (.tu [])), (11, cond (zb.getD 6 false) (.bp 0 0 0) (.tu [])), (12, cond (zb.getD 7 false) (.bp 2 1 3) (.tu [])), (13, cond (zb.getD 8 false) (I e.id) (.tu [])), (14, cond (zb.getD 9 false) (.bp 0 0 0) (.tu [])), (15, cond (zb.getD 10 false) (.bp 2 1 4) (.tu [])), (16, cond (zb.getD 11 false) (bs none e.body) (.tu [])), (17, cond (zb.getD 12 false) (.bp 0 0 0) (.tu [])), (4, cond (zb.getD 13 false) (.bp 0 0 0) (.sc (.pointer none)))], ((zs.b.set 0 (cond (zb.getD 12 false) (⟨0, .c tW [B true, B (putR st e).1, .hd 1 5]⟩) (cond (zb.getD 9 false) (⟨0, .c tW [B true, B (addS (addS (addS st (intS e.stamp)) (intS e.client)) (intS e.id)).1, .hd 1 4]⟩) (cond (zb.getD 6 false) (⟨0, .c tW [B true, B (addS (addS st (intS e.stamp)) (intS e.client)).1, .hd 1 3]⟩) (cond (zb.getD 3 false) (⟨0, .c tW [B true, B (addS st (intS e.stamp)).1, .hd 1 2]⟩) (zs.b.getD 0 ⟨0, .x⟩)))))).set 1 (cond (zb.getD 12 false) (⟨5, .r tU 1 ((putR st e).2.map eB)⟩) (cond (zb.getD 9 false) (⟨4, .r tU 1 ((addS (addS (addS st (intS e.stamp)) (intS e.client)) (intS e.id)).2.map eB)⟩) (cond (zb.getD 6 false) (⟨3, .r tU 1 ((addS (addS st (intS e.stamp)) (intS e.client)).2.map eB)⟩) (cond (zb.getD 3 false) (⟨2, .r tU 1 ((addS st (intS e.stamp)).2.map eB)⟩) (zs.b.getD 1 ⟨0, .x⟩))))))⟩) (by kernel_rfl) (by kernel_rfl) (by kernel_rfl) ?_ ?_
  rotate_left
  simp only [cond_true, cond_false, setT, List.set_cons_succ, List.set_cons_zero, List.getD_cons_succ, List.getD_cons_zero, List.set_cons_succ, List.length_cons, List.length_nil, List.replicate_succ, List.replicate_zero, Nat.reduceAdd]
  rotate_left
  · intro b hb' hcl
    obtain ⟨l0, b0, rfl, hb0⟩ := len_cons hb'
    obtain ⟨l1, b1, rfl, hb1⟩ := len_cons hb0
    obtain ⟨l2, b2, rfl, hb2⟩ := len_cons hb1
    obtain ⟨l3, b3, rfl, hb3⟩ := len_cons hb2
    obtain ⟨l4, b4, rfl, hb4⟩ := len_cons hb3
    obtain ⟨l5, b5, rfl, hb5⟩ := len_cons hb4
    obtain ⟨l6, b6, rfl, hb6⟩ := len_cons hb5
    obtain ⟨l7, b7, rfl, hb7⟩ := len_cons hb6
    obtain ⟨l8, b8, rfl, hb8⟩ := len_cons hb7
    obtain ⟨l9, b9, rfl, hb9⟩ := len_cons hb8
    obtain ⟨l10, b10, rfl, hb10⟩ := len_cons hb9
    obtain ⟨l11, b11, rfl, hb11⟩ := len_cons hb10
    obtain ⟨l12, b12, rfl, hb12⟩ := len_cons hb11
    obtain ⟨l13, b13, rfl, hb13⟩ := len_cons hb12
    obtain rfl := List.length_eq_zero_iff.1 hb13
    clear hb' hb0 hb1 hb2 hb3 hb4 hb5 hb6 hb7 hb8 hb9 hb10 hb11 hb12 hb13
    · simp only [closedB, depsOk, Region.binds, List.toList_toArray, List.all_cons, List.all_nil, List.getD_cons_succ, List.getD_cons_zero, Bool.not_true, Bool.not_false, Bool.true_or, Bool.false_or, Bool.and_true, Bool.true_and, Bool.or_true, Bool.and_false, Bool.or_false, Bool.false_and, Bool.and_eq_true, Bool.or_eq_true, Bool.not_eq_true'] at hcl
      simp only [StepsP]
      refine ⟨?_, ?_, ?_, ?_, ?_, ?_, ?_, ?_, ?_, ?_, ?_, ?_, ?_, ?_, trivial⟩
      · intro h1 h2
        simp [depsOk, Region.binds] at h1 h2
        subst h1
        (repeat (obtain ⟨rfl, h2⟩ := h2))
        (try subst h2)
        clear hcl
        simp only [cond_true, cond_false, setT, List.set_cons_succ, List.set_cons_zero, List.getD_cons_succ, List.getD_cons_zero, List.set_cons_succ]
        (with_reducible apply AP.k_any); first | (refine AP.s1 rfl ?_ ?_; focus ((repeat' (with_reducible apply And.intro)) <;> (first | exact True.intro | exact rfl | omega | (simp; omega) | (simp; done) | assumption))) | fail "no step"
        all_goals (try simp only [nm, newS, plc, spl, bldA, bldS, zrow, chunks, ZC.val, Nat.reduceAdd, Nat.reduceSub, BEq.rfl])
        refine AP.nil ?_
        exact ⟨rfl, rfl⟩
      · intro h1 h2
        simp [depsOk, Region.binds] at h1 h2
        subst h1
        (repeat (obtain ⟨rfl, h2⟩ := h2))
        (try subst h2)
        clear hcl
        simp only [cond_true, cond_false, setT, List.set_cons_succ, List.set_cons_zero, List.getD_cons_succ, List.getD_cons_zero, List.set_cons_succ]
        (with_reducible apply AP.k_any); first | (refine AP.s1 rfl ?_ ?_; focus ((repeat' (with_reducible apply And.intro)) <;> (first | exact True.intro | exact rfl | omega | (simp; omega) | (simp; done) | assumption))) | fail "no step"
        all_goals (try simp only [nm, newS, plc, spl, bldA, bldS, zrow, chunks, ZC.val, Nat.reduceAdd, Nat.reduceSub, BEq.rfl])
        refine AP.nil ?_
        exact ⟨rfl, rfl⟩
      · intro h1 h2
        simp [depsOk, Region.binds] at h1 h2
        subst h1
        (repeat (obtain ⟨rfl, h2⟩ := h2))
        (try subst h2)
        (first | (obtain rfl : l3 = false := by grind only) | skip)
        (first | (obtain rfl : l6 = false := by grind only) | skip)
        (first | (obtain rfl : l9 = false := by grind only) | skip)
        (first | (obtain rfl : l12 = false := by grind only) | skip)
        clear hcl
        simp only [cond_true, cond_false, setT, List.set_cons_succ, List.set_cons_zero, List.getD_cons_succ, List.getD_cons_zero, List.set_cons_succ]
        (with_reducible apply AP.k_any); first | (refine AP.s1 rfl ?_ ?_; focus ((repeat' (with_reducible apply And.intro)) <;> (first | exact True.intro | exact rfl | omega | (simp; omega) | (simp; done) | assumption))) | refine AP.pure rfl (pq_load1_rp rfl rfl rfl rfl (by (first | (refine ⟨?_, ?_⟩; assumption; rfl) | exact ⟨mapAt (by (first | omega | (simp; omega) | (simp; done) | assumption)), rfl⟩ | exact ⟨rfl, rfl⟩))) ?_ | refine AP.pure rfl (pq_loadN_rp rfl rfl rfl rfl (by (first | (refine ⟨?_, ?_⟩; assumption; rfl) | exact ⟨mapAt (by (first | omega | (simp; omega) | (simp; done) | assumption)), rfl⟩ | exact ⟨rfl, rfl⟩))) ?_ | refine AP.pure rfl (pq_load1_ep rfl rfl rfl rfl rfl (by (first | (refine ⟨?_, ?_⟩; assumption; rfl) | exact ⟨mapAt (by (first | omega | (simp; omega) | (simp; done) | assumption)), rfl⟩ | exact ⟨rfl, rfl⟩))) ?_ | refine AP.pure rfl (pq_loadN_ep rfl rfl rfl rfl rfl (by (first | (refine ⟨?_, ?_⟩; assumption; rfl) | exact ⟨mapAt (by (first | omega | (simp; omega) | (simp; done) | assumption)), rfl⟩ | exact ⟨rfl, rfl⟩))) ?_ | fail "no step"
        all_goals (try simp only [nm, newS, plc, spl, bldA, bldS, zrow, chunks, ZC.val, Nat.reduceAdd, Nat.reduceSub, BEq.rfl])
        refine AP.nil ?_
        exact ⟨rfl, rfl⟩
      · intro h1 h2
        simp [depsOk, Region.binds] at h1 h2
        subst h1
        (repeat (obtain ⟨rfl, h2⟩ := h2))
        (try subst h2)
        (first | (obtain rfl : l6 = false := by grind only) | skip)
        (first | (obtain rfl : l9 = false := by grind only) | skip)
        (first | (obtain rfl : l12 = false := by grind only) | skip)
        clear hcl
        simp only [cond_true, cond_false, setT, List.set_cons_succ, List.set_cons_zero, List.getD_cons_succ, List.getD_cons_zero, List.set_cons_succ]
        (first
        | ((with_reducible apply AP.k_any); refine ap_callB 0 [(0, 0)] rfl rfl (fn := 49) rfl (wint_ac st e.stamp hst) (by (repeat' (first | exact PasC.nil | apply PasC.nil | apply PasC.cons | apply PasV.leaf rfl | apply PasV.nl | apply PasV.bp rfl | apply PasV.lend rfl rfl rfl | apply PasV.lend rfl rfl (ro_B _) | apply PasV.lend rfl rfl (ro_M _) | apply PasV.lend rfl rfl (ro_E _ _) | apply PasV.lend rfl rfl (ro_I _) | apply PasV.mv rfl | apply PasV.ag | apply PasV.fn | exact PasV.fs | apply PasV.any))) (by (repeat' (first | exact Out.nil | apply Out.cons rfl | exact ClsC.nil | apply ClsC.nl | apply ClsC.leaf rfl | apply ClsC.hd rfl | apply ClsC.fn | apply ClsC.fz rfl (ro_B _) | apply ClsC.fz rfl (ro_M _) | apply ClsC.fz rfl (ro_E _ _) | apply ClsC.fz rfl rfl))) rfl (by (repeat' (first | exact Bk.nil | apply Bk.cons rfl rfl rfl))) (by (repeat' (first | exact RnV.leaf rfl | exact RnC.nil | apply RnC.cons | apply RnV.ag | apply RnV.tu | exact RnV.bp rfl))) rfl ?_)
        | ((with_reducible apply AP.k_any); refine ap_callB 0 [(0, 0)] rfl rfl (fn := 49) rfl (wint_ac _ e.client h1) (by (repeat' (first | exact PasC.nil | apply PasC.nil | apply PasC.cons | apply PasV.leaf rfl | apply PasV.nl | apply PasV.bp rfl | apply PasV.lend rfl rfl rfl | apply PasV.lend rfl rfl (ro_B _) | apply PasV.lend rfl rfl (ro_M _) | apply PasV.lend rfl rfl (ro_E _ _) | apply PasV.lend rfl rfl (ro_I _) | apply PasV.mv rfl | apply PasV.ag | apply PasV.fn | exact PasV.fs | apply PasV.any))) (by (repeat' (first | exact Out.nil | apply Out.cons rfl | exact ClsC.nil | apply ClsC.nl | apply ClsC.leaf rfl | apply ClsC.hd rfl | apply ClsC.fn | apply ClsC.fz rfl (ro_B _) | apply ClsC.fz rfl (ro_M _) | apply ClsC.fz rfl (ro_E _ _) | apply ClsC.fz rfl rfl))) rfl (by (repeat' (first | exact Bk.nil | apply Bk.cons rfl rfl rfl))) (by (repeat' (first | exact RnV.leaf rfl | exact RnC.nil | apply RnC.cons | apply RnV.ag | apply RnV.tu | exact RnV.bp rfl))) rfl ?_)
        | ((with_reducible apply AP.k_any); refine ap_callB 0 [(0, 0)] rfl rfl (fn := 49) rfl (wint_ac _ e.id h2) (by (repeat' (first | exact PasC.nil | apply PasC.nil | apply PasC.cons | apply PasV.leaf rfl | apply PasV.nl | apply PasV.bp rfl | apply PasV.lend rfl rfl rfl | apply PasV.lend rfl rfl (ro_B _) | apply PasV.lend rfl rfl (ro_M _) | apply PasV.lend rfl rfl (ro_E _ _) | apply PasV.lend rfl rfl (ro_I _) | apply PasV.mv rfl | apply PasV.ag | apply PasV.fn | exact PasV.fs | apply PasV.any))) (by (repeat' (first | exact Out.nil | apply Out.cons rfl | exact ClsC.nil | apply ClsC.nl | apply ClsC.leaf rfl | apply ClsC.hd rfl | apply ClsC.fn | apply ClsC.fz rfl (ro_B _) | apply ClsC.fz rfl (ro_M _) | apply ClsC.fz rfl (ro_E _ _) | apply ClsC.fz rfl rfl))) rfl (by (repeat' (first | exact Bk.nil | apply Bk.cons rfl rfl rfl))) (by (repeat' (first | exact RnV.leaf rfl | exact RnC.nil | apply RnC.cons | apply RnV.ag | apply RnV.tu | exact RnV.bp rfl))) rfl ?_)
        | fail "no arm")
        all_goals (try simp only [nm, newS, plc, spl, bldA, bldS, zrow, chunks, ZC.val, Nat.reduceAdd, Nat.reduceSub, BEq.rfl])
        refine AP.nil ?_
        exact ⟨rfl, rfl⟩
      · intro h1 h2
        simp [depsOk, Region.binds] at h1 h2
        subst h1
        (repeat (obtain ⟨rfl, h2⟩ := h2))
        (try subst h2)
        clear hcl
        simp only [cond_true, cond_false, setT, List.set_cons_succ, List.set_cons_zero, List.getD_cons_succ, List.getD_cons_zero, List.set_cons_succ]
        (with_reducible apply AP.k_any); first | (refine AP.s1 rfl ?_ ?_; focus ((repeat' (with_reducible apply And.intro)) <;> (first | exact True.intro | exact rfl | omega | (simp; omega) | (simp; done) | assumption))) | fail "no step"
        all_goals (try simp only [nm, newS, plc, spl, bldA, bldS, zrow, chunks, ZC.val, Nat.reduceAdd, Nat.reduceSub, BEq.rfl])
        refine AP.nil ?_
        exact ⟨rfl, rfl⟩
      · intro h1 h2
        simp [depsOk, Region.binds] at h1 h2
        subst h1
        (repeat (obtain ⟨rfl, h2⟩ := h2))
        (try subst h2)
        (first | (obtain rfl : l6 = false := by grind only) | skip)
        (first | (obtain rfl : l9 = false := by grind only) | skip)
        (first | (obtain rfl : l12 = false := by grind only) | skip)
        clear hcl
        simp only [cond_true, cond_false, setT, List.set_cons_succ, List.set_cons_zero, List.getD_cons_succ, List.getD_cons_zero, List.set_cons_succ]
        (with_reducible apply AP.k_any); first | (refine AP.s1 rfl ?_ ?_; focus ((repeat' (with_reducible apply And.intro)) <;> (first | exact True.intro | exact rfl | omega | (simp; omega) | (simp; done) | assumption))) | refine AP.pure rfl (pq_load1_rp rfl rfl rfl rfl (by (first | (refine ⟨?_, ?_⟩; assumption; rfl) | exact ⟨mapAt (by (first | omega | (simp; omega) | (simp; done) | assumption)), rfl⟩ | exact ⟨rfl, rfl⟩))) ?_ | refine AP.pure rfl (pq_loadN_rp rfl rfl rfl rfl (by (first | (refine ⟨?_, ?_⟩; assumption; rfl) | exact ⟨mapAt (by (first | omega | (simp; omega) | (simp; done) | assumption)), rfl⟩ | exact ⟨rfl, rfl⟩))) ?_ | refine AP.pure rfl (pq_load1_ep rfl rfl rfl rfl rfl (by (first | (refine ⟨?_, ?_⟩; assumption; rfl) | exact ⟨mapAt (by (first | omega | (simp; omega) | (simp; done) | assumption)), rfl⟩ | exact ⟨rfl, rfl⟩))) ?_ | refine AP.pure rfl (pq_loadN_ep rfl rfl rfl rfl rfl (by (first | (refine ⟨?_, ?_⟩; assumption; rfl) | exact ⟨mapAt (by (first | omega | (simp; omega) | (simp; done) | assumption)), rfl⟩ | exact ⟨rfl, rfl⟩))) ?_ | fail "no step"
        all_goals (try simp only [nm, newS, plc, spl, bldA, bldS, zrow, chunks, ZC.val, Nat.reduceAdd, Nat.reduceSub, BEq.rfl])
        refine AP.nil ?_
        exact ⟨rfl, rfl⟩
      · intro h1 h2
        simp [depsOk, Region.binds] at h1 h2
        subst h1
        (repeat (obtain ⟨rfl, h2⟩ := h2))
        (try subst h2)
        (first | (obtain rfl : l3 = true := by grind only) | skip)
        (first | (obtain rfl : l9 = false := by grind only) | skip)
        (first | (obtain rfl : l12 = false := by grind only) | skip)
        clear hcl
        simp only [cond_true, cond_false, setT, List.set_cons_succ, List.set_cons_zero, List.getD_cons_succ, List.getD_cons_zero, List.set_cons_succ]
        (first
        | ((with_reducible apply AP.k_any); refine ap_callB 0 [(0, 0)] rfl rfl (fn := 49) rfl (wint_ac st e.stamp hst) (by (repeat' (first | exact PasC.nil | apply PasC.nil | apply PasC.cons | apply PasV.leaf rfl | apply PasV.nl | apply PasV.bp rfl | apply PasV.lend rfl rfl rfl | apply PasV.lend rfl rfl (ro_B _) | apply PasV.lend rfl rfl (ro_M _) | apply PasV.lend rfl rfl (ro_E _ _) | apply PasV.lend rfl rfl (ro_I _) | apply PasV.mv rfl | apply PasV.ag | apply PasV.fn | exact PasV.fs | apply PasV.any))) (by (repeat' (first | exact Out.nil | apply Out.cons rfl | exact ClsC.nil | apply ClsC.nl | apply ClsC.leaf rfl | apply ClsC.hd rfl | apply ClsC.fn | apply ClsC.fz rfl (ro_B _) | apply ClsC.fz rfl (ro_M _) | apply ClsC.fz rfl (ro_E _ _) | apply ClsC.fz rfl rfl))) rfl (by (repeat' (first | exact Bk.nil | apply Bk.cons rfl rfl rfl))) (by (repeat' (first | exact RnV.leaf rfl | exact RnC.nil | apply RnC.cons | apply RnV.ag | apply RnV.tu | exact RnV.bp rfl))) rfl ?_)
        | ((with_reducible apply AP.k_any); refine ap_callB 0 [(0, 0)] rfl rfl (fn := 49) rfl (wint_ac _ e.client h1) (by (repeat' (first | exact PasC.nil | apply PasC.nil | apply PasC.cons | apply PasV.leaf rfl | apply PasV.nl | apply PasV.bp rfl | apply PasV.lend rfl rfl rfl | apply PasV.lend rfl rfl (ro_B _) | apply PasV.lend rfl rfl (ro_M _) | apply PasV.lend rfl rfl (ro_E _ _) | apply PasV.lend rfl rfl (ro_I _) | apply PasV.mv rfl | apply PasV.ag | apply PasV.fn | exact PasV.fs | apply PasV.any))) (by (repeat' (first | exact Out.nil | apply Out.cons rfl | exact ClsC.nil | apply ClsC.nl | apply ClsC.leaf rfl | apply ClsC.hd rfl | apply ClsC.fn | apply ClsC.fz rfl (ro_B _) | apply ClsC.fz rfl (ro_M _) | apply ClsC.fz rfl (ro_E _ _) | apply ClsC.fz rfl rfl))) rfl (by (repeat' (first | exact Bk.nil | apply Bk.cons rfl rfl rfl))) (by (repeat' (first | exact RnV.leaf rfl | exact RnC.nil | apply RnC.cons | apply RnV.ag | apply RnV.tu | exact RnV.bp rfl))) rfl ?_)
        | ((with_reducible apply AP.k_any); refine ap_callB 0 [(0, 0)] rfl rfl (fn := 49) rfl (wint_ac _ e.id h2) (by (repeat' (first | exact PasC.nil | apply PasC.nil | apply PasC.cons | apply PasV.leaf rfl | apply PasV.nl | apply PasV.bp rfl | apply PasV.lend rfl rfl rfl | apply PasV.lend rfl rfl (ro_B _) | apply PasV.lend rfl rfl (ro_M _) | apply PasV.lend rfl rfl (ro_E _ _) | apply PasV.lend rfl rfl (ro_I _) | apply PasV.mv rfl | apply PasV.ag | apply PasV.fn | exact PasV.fs | apply PasV.any))) (by (repeat' (first | exact Out.nil | apply Out.cons rfl | exact ClsC.nil | apply ClsC.nl | apply ClsC.leaf rfl | apply ClsC.hd rfl | apply ClsC.fn | apply ClsC.fz rfl (ro_B _) | apply ClsC.fz rfl (ro_M _) | apply ClsC.fz rfl (ro_E _ _) | apply ClsC.fz rfl rfl))) rfl (by (repeat' (first | exact Bk.nil | apply Bk.cons rfl rfl rfl))) (by (repeat' (first | exact RnV.leaf rfl | exact RnC.nil | apply RnC.cons | apply RnV.ag | apply RnV.tu | exact RnV.bp rfl))) rfl ?_)
        | fail "no arm")
        all_goals (try simp only [nm, newS, plc, spl, bldA, bldS, zrow, chunks, ZC.val, Nat.reduceAdd, Nat.reduceSub, BEq.rfl])
        refine AP.nil ?_
        exact ⟨rfl, rfl⟩
      · intro h1 h2
        simp [depsOk, Region.binds] at h1 h2
        subst h1
        (repeat (obtain ⟨rfl, h2⟩ := h2))
        (try subst h2)
        clear hcl
        simp only [cond_true, cond_false, setT, List.set_cons_succ, List.set_cons_zero, List.getD_cons_succ, List.getD_cons_zero, List.set_cons_succ]
        (with_reducible apply AP.k_any); first | (refine AP.s1 rfl ?_ ?_; focus ((repeat' (with_reducible apply And.intro)) <;> (first | exact True.intro | exact rfl | omega | (simp; omega) | (simp; done) | assumption))) | fail "no step"
        all_goals (try simp only [nm, newS, plc, spl, bldA, bldS, zrow, chunks, ZC.val, Nat.reduceAdd, Nat.reduceSub, BEq.rfl])
        refine AP.nil ?_
        exact ⟨rfl, rfl⟩
      · intro h1 h2
        simp [depsOk, Region.binds] at h1 h2
        subst h1
        (repeat (obtain ⟨rfl, h2⟩ := h2))
        (try subst h2)
        (first | (obtain rfl : l9 = false := by grind only) | skip)
        (first | (obtain rfl : l12 = false := by grind only) | skip)
        clear hcl
        simp only [cond_true, cond_false, setT, List.set_cons_succ, List.set_cons_zero, List.getD_cons_succ, List.getD_cons_zero, List.set_cons_succ]
        (with_reducible apply AP.k_any); first | (refine AP.s1 rfl ?_ ?_; focus ((repeat' (with_reducible apply And.intro)) <;> (first | exact True.intro | exact rfl | omega | (simp; omega) | (simp; done) | assumption))) | refine AP.pure rfl (pq_load1_rp rfl rfl rfl rfl (by (first | (refine ⟨?_, ?_⟩; assumption; rfl) | exact ⟨mapAt (by (first | omega | (simp; omega) | (simp; done) | assumption)), rfl⟩ | exact ⟨rfl, rfl⟩))) ?_ | refine AP.pure rfl (pq_loadN_rp rfl rfl rfl rfl (by (first | (refine ⟨?_, ?_⟩; assumption; rfl) | exact ⟨mapAt (by (first | omega | (simp; omega) | (simp; done) | assumption)), rfl⟩ | exact ⟨rfl, rfl⟩))) ?_ | refine AP.pure rfl (pq_load1_ep rfl rfl rfl rfl rfl (by (first | (refine ⟨?_, ?_⟩; assumption; rfl) | exact ⟨mapAt (by (first | omega | (simp; omega) | (simp; done) | assumption)), rfl⟩ | exact ⟨rfl, rfl⟩))) ?_ | refine AP.pure rfl (pq_loadN_ep rfl rfl rfl rfl rfl (by (first | (refine ⟨?_, ?_⟩; assumption; rfl) | exact ⟨mapAt (by (first | omega | (simp; omega) | (simp; done) | assumption)), rfl⟩ | exact ⟨rfl, rfl⟩))) ?_ | fail "no step"
        all_goals (try simp only [nm, newS, plc, spl, bldA, bldS, zrow, chunks, ZC.val, Nat.reduceAdd, Nat.reduceSub, BEq.rfl])
        refine AP.nil ?_
        exact ⟨rfl, rfl⟩
      · intro h1 h2
        simp [depsOk, Region.binds] at h1 h2
        subst h1
        (repeat (obtain ⟨rfl, h2⟩ := h2))
        (try subst h2)
        (first | (obtain rfl : l3 = true := by grind only) | skip)
        (first | (obtain rfl : l6 = true := by grind only) | skip)
        (first | (obtain rfl : l12 = false := by grind only) | skip)
        clear hcl
        simp only [cond_true, cond_false, setT, List.set_cons_succ, List.set_cons_zero, List.getD_cons_succ, List.getD_cons_zero, List.set_cons_succ]
        (first
        | ((with_reducible apply AP.k_any); refine ap_callB 0 [(0, 0)] rfl rfl (fn := 49) rfl (wint_ac st e.stamp hst) (by (repeat' (first | exact PasC.nil | apply PasC.nil | apply PasC.cons | apply PasV.leaf rfl | apply PasV.nl | apply PasV.bp rfl | apply PasV.lend rfl rfl rfl | apply PasV.lend rfl rfl (ro_B _) | apply PasV.lend rfl rfl (ro_M _) | apply PasV.lend rfl rfl (ro_E _ _) | apply PasV.lend rfl rfl (ro_I _) | apply PasV.mv rfl | apply PasV.ag | apply PasV.fn | exact PasV.fs | apply PasV.any))) (by (repeat' (first | exact Out.nil | apply Out.cons rfl | exact ClsC.nil | apply ClsC.nl | apply ClsC.leaf rfl | apply ClsC.hd rfl | apply ClsC.fn | apply ClsC.fz rfl (ro_B _) | apply ClsC.fz rfl (ro_M _) | apply ClsC.fz rfl (ro_E _ _) | apply ClsC.fz rfl rfl))) rfl (by (repeat' (first | exact Bk.nil | apply Bk.cons rfl rfl rfl))) (by (repeat' (first | exact RnV.leaf rfl | exact RnC.nil | apply RnC.cons | apply RnV.ag | apply RnV.tu | exact RnV.bp rfl))) rfl ?_)
        | ((with_reducible apply AP.k_any); refine ap_callB 0 [(0, 0)] rfl rfl (fn := 49) rfl (wint_ac _ e.client h1) (by (repeat' (first | exact PasC.nil | apply PasC.nil | apply PasC.cons | apply PasV.leaf rfl | apply PasV.nl | apply PasV.bp rfl | apply PasV.lend rfl rfl rfl | apply PasV.lend rfl rfl (ro_B _) | apply PasV.lend rfl rfl (ro_M _) | apply PasV.lend rfl rfl (ro_E _ _) | apply PasV.lend rfl rfl (ro_I _) | apply PasV.mv rfl | apply PasV.ag | apply PasV.fn | exact PasV.fs | apply PasV.any))) (by (repeat' (first | exact Out.nil | apply Out.cons rfl | exact ClsC.nil | apply ClsC.nl | apply ClsC.leaf rfl | apply ClsC.hd rfl | apply ClsC.fn | apply ClsC.fz rfl (ro_B _) | apply ClsC.fz rfl (ro_M _) | apply ClsC.fz rfl (ro_E _ _) | apply ClsC.fz rfl rfl))) rfl (by (repeat' (first | exact Bk.nil | apply Bk.cons rfl rfl rfl))) (by (repeat' (first | exact RnV.leaf rfl | exact RnC.nil | apply RnC.cons | apply RnV.ag | apply RnV.tu | exact RnV.bp rfl))) rfl ?_)
        | ((with_reducible apply AP.k_any); refine ap_callB 0 [(0, 0)] rfl rfl (fn := 49) rfl (wint_ac _ e.id h2) (by (repeat' (first | exact PasC.nil | apply PasC.nil | apply PasC.cons | apply PasV.leaf rfl | apply PasV.nl | apply PasV.bp rfl | apply PasV.lend rfl rfl rfl | apply PasV.lend rfl rfl (ro_B _) | apply PasV.lend rfl rfl (ro_M _) | apply PasV.lend rfl rfl (ro_E _ _) | apply PasV.lend rfl rfl (ro_I _) | apply PasV.mv rfl | apply PasV.ag | apply PasV.fn | exact PasV.fs | apply PasV.any))) (by (repeat' (first | exact Out.nil | apply Out.cons rfl | exact ClsC.nil | apply ClsC.nl | apply ClsC.leaf rfl | apply ClsC.hd rfl | apply ClsC.fn | apply ClsC.fz rfl (ro_B _) | apply ClsC.fz rfl (ro_M _) | apply ClsC.fz rfl (ro_E _ _) | apply ClsC.fz rfl rfl))) rfl (by (repeat' (first | exact Bk.nil | apply Bk.cons rfl rfl rfl))) (by (repeat' (first | exact RnV.leaf rfl | exact RnC.nil | apply RnC.cons | apply RnV.ag | apply RnV.tu | exact RnV.bp rfl))) rfl ?_)
        | fail "no arm")
        all_goals (try simp only [nm, newS, plc, spl, bldA, bldS, zrow, chunks, ZC.val, Nat.reduceAdd, Nat.reduceSub, BEq.rfl])
        refine AP.nil ?_
        exact ⟨rfl, rfl⟩
      · intro h1 h2
        simp [depsOk, Region.binds] at h1 h2
        subst h1
        (repeat (obtain ⟨rfl, h2⟩ := h2))
        (try subst h2)
        clear hcl
        simp only [cond_true, cond_false, setT, List.set_cons_succ, List.set_cons_zero, List.getD_cons_succ, List.getD_cons_zero, List.set_cons_succ]
        (with_reducible apply AP.k_any); first | (refine AP.s1 rfl ?_ ?_; focus ((repeat' (with_reducible apply And.intro)) <;> (first | exact True.intro | exact rfl | omega | (simp; omega) | (simp; done) | assumption))) | fail "no step"
        all_goals (try simp only [nm, newS, plc, spl, bldA, bldS, zrow, chunks, ZC.val, Nat.reduceAdd, Nat.reduceSub, BEq.rfl])
        refine AP.nil ?_
        exact ⟨rfl, rfl⟩
      · intro h1 h2
        simp [depsOk, Region.binds] at h1 h2
        subst h1
        (repeat (obtain ⟨rfl, h2⟩ := h2))
        (try subst h2)
        (first | (obtain rfl : l12 = false := by grind only) | skip)
        clear hcl
        simp only [cond_true, cond_false, setT, List.set_cons_succ, List.set_cons_zero, List.getD_cons_succ, List.getD_cons_zero, List.set_cons_succ]
        (with_reducible apply AP.k_any); first | (refine AP.s1 rfl ?_ ?_; focus ((repeat' (with_reducible apply And.intro)) <;> (first | exact True.intro | exact rfl | omega | (simp; omega) | (simp; done) | assumption))) | refine AP.pure rfl (pq_load1_rp rfl rfl rfl rfl (by (first | (refine ⟨?_, ?_⟩; assumption; rfl) | exact ⟨mapAt (by (first | omega | (simp; omega) | (simp; done) | assumption)), rfl⟩ | exact ⟨rfl, rfl⟩))) ?_ | refine AP.pure rfl (pq_loadN_rp rfl rfl rfl rfl (by (first | (refine ⟨?_, ?_⟩; assumption; rfl) | exact ⟨mapAt (by (first | omega | (simp; omega) | (simp; done) | assumption)), rfl⟩ | exact ⟨rfl, rfl⟩))) ?_ | refine AP.pure rfl (pq_load1_ep rfl rfl rfl rfl rfl (by (first | (refine ⟨?_, ?_⟩; assumption; rfl) | exact ⟨mapAt (by (first | omega | (simp; omega) | (simp; done) | assumption)), rfl⟩ | exact ⟨rfl, rfl⟩))) ?_ | refine AP.pure rfl (pq_loadN_ep rfl rfl rfl rfl rfl (by (first | (refine ⟨?_, ?_⟩; assumption; rfl) | exact ⟨mapAt (by (first | omega | (simp; omega) | (simp; done) | assumption)), rfl⟩ | exact ⟨rfl, rfl⟩))) ?_ | fail "no step"
        all_goals (try simp only [nm, newS, plc, spl, bldA, bldS, zrow, chunks, ZC.val, Nat.reduceAdd, Nat.reduceSub, BEq.rfl])
        refine AP.nil ?_
        exact ⟨rfl, rfl⟩
      · intro h1 h2
        simp [depsOk, Region.binds] at h1 h2
        subst h1
        (repeat (obtain ⟨rfl, h2⟩ := h2))
        (try subst h2)
        (first | (obtain rfl : l3 = true := by grind only) | skip)
        (first | (obtain rfl : l6 = true := by grind only) | skip)
        (first | (obtain rfl : l9 = true := by grind only) | skip)
        clear hcl
        simp only [cond_true, cond_false, setT, List.set_cons_succ, List.set_cons_zero, List.getD_cons_succ, List.getD_cons_zero, List.set_cons_succ]
        (first
        | ((with_reducible apply AP.k_any); refine ap_callB 0 [(0, 0)] rfl rfl (fn := 118) rfl (wbytes_ac _ e.body h3 hb) (by (repeat' (first | exact PasC.nil | apply PasC.nil | apply PasC.cons | apply PasV.leaf rfl | apply PasV.nl | apply PasV.bp rfl | apply PasV.lend rfl rfl rfl | apply PasV.lend rfl rfl (ro_B _) | apply PasV.lend rfl rfl (ro_M _) | apply PasV.lend rfl rfl (ro_E _ _) | apply PasV.lend rfl rfl (ro_I _) | apply PasV.mv rfl | apply PasV.ag | apply PasV.fn | exact PasV.fs | apply PasV.any))) (by (repeat' (first | exact Out.nil | apply Out.cons rfl | exact ClsC.nil | apply ClsC.nl | apply ClsC.leaf rfl | apply ClsC.hd rfl | apply ClsC.fn | apply ClsC.fz rfl (ro_B _) | apply ClsC.fz rfl (ro_M _) | apply ClsC.fz rfl (ro_E _ _) | apply ClsC.fz rfl rfl))) rfl (by (repeat' (first | exact Bk.nil | apply Bk.cons rfl rfl rfl))) (by (repeat' (first | exact RnV.leaf rfl | exact RnC.nil | apply RnC.cons | apply RnV.ag | apply RnV.tu | exact RnV.bp rfl))) rfl ?_)
        | fail "no arm")
        all_goals (try simp only [nm, newS, plc, spl, bldA, bldS, zrow, chunks, ZC.val, Nat.reduceAdd, Nat.reduceSub, BEq.rfl])
        refine AP.nil ?_
        exact ⟨rfl, rfl⟩
      · intro h1 h2
        simp [depsOk, Region.binds] at h1 h2
        subst h1
        (repeat (obtain ⟨rfl, h2⟩ := h2))
        (try subst h2)
        clear hcl
        simp only [cond_true, cond_false, setT, List.set_cons_succ, List.set_cons_zero, List.getD_cons_succ, List.getD_cons_zero, List.set_cons_succ]
        (with_reducible apply AP.k_any); first | (refine AP.s1 rfl ?_ ?_; focus ((repeat' (with_reducible apply And.intro)) <;> (first | exact True.intro | exact rfl | omega | (simp; omega) | (simp; done) | assumption))) | fail "no step"
        all_goals (try simp only [nm, newS, plc, spl, bldA, bldS, zrow, chunks, ZC.val, Nat.reduceAdd, Nat.reduceSub, BEq.rfl])
        refine AP.nil ?_
        exact ⟨rfl, rfl⟩
  repeat' (first
    | ((first
    | ((with_reducible apply AP.k_any); first
             | (refine AP.s1 rfl ?_ ?_; focus ((repeat' (with_reducible apply And.intro)) <;> (first | exact True.intro | exact rfl | omega | (simp; omega) | (simp; done) | assumption)))
             | refine ap_box rfl rfl rfl rfl ?_
      )
    
    )
      <;> (try simp only [nm, newS, plc, spl, bldA, bldS, zrow, chunks, ZC.val, Nat.reduceAdd, Nat.reduceSub, BEq.rfl]))
    | ((with_reducible apply AP.k_nil); first
        | (refine AP.nil (hQ' _ ?_); clear hQ' Q')
        | refine AP.nil ?_)
    | ((with_reducible apply CP.k_reg); refine cp_regG fun Q' hQ' => ?_)
      | (with_reducible apply CP.k_reg1; refine cp_region ?_)
      | ((with_reducible apply CP.k_cond); first
          | refine cp_condT rfl ?_
          | refine cp_condF rfl ?_
          | refine cp_cond rfl (fun hc => ?_) (fun hc => ?_))
      | (with_reducible first | refine cp_block ?_ | refine cp_exit ?_ | refine cp_ret ?_ | refine cp_skip ?_ | refine cp_seq ?_ | refine inB_hit ?_ | refine inB_n ?_ | refine inB_r ?_ | refine thenQ_n ?_ | refine thenQ_r ?_ | refine thenQ_e ?_ | refine cpn_succ ?_)
      | (refine inB_miss rfl ?_))
  apply RetQ.mk (ks := [(0, 0)]) (by first | exact .inr rfl | exact .inl rfl) (by exact ⟨rfl, rfl⟩)
  · (repeat' (first | exact RnV.leaf rfl | exact RnC.nil | apply RnC.cons | apply RnV.ag | apply RnV.tu | exact RnV.bp rfl))
  · (repeat' (first | exact ResL.nil | apply ResL.cons (Res1.row rfl rfl rfl rfl rfl) | apply ResL.cons (Res1.flat rfl rfl rfl rfl rfl) | apply ResL.cons (Res1.tmp (by (try simp only [List.getD_cons_succ, List.getD_cons_zero]); exact rfl))))
  · (repeat' (first | exact ClsC.nil | exact ClsL.nil | apply ClsC.nl | apply ClsC.leaf rfl | apply ClsC.hd rfl | apply ClsC.fn | apply ClsR.tu | apply ClsL.cons | apply ClsV.ag | exact ClsV.bp | exact ClsV.one (ClsC.leaf rfl ClsC.nil) | exact ClsV.one (ClsC.nl ClsC.nil) | exact ClsV.one (ClsC.hd rfl ClsC.nil) | apply ClsR.one))
  · (repeat' (first | exact Out.nil | apply Out.cons rfl | exact ClsC.nil | apply ClsC.nl | apply ClsC.leaf rfl | apply ClsC.hd rfl | apply ClsC.fn | apply ClsC.fz rfl (ro_B _) | apply ClsC.fz rfl (ro_M _) | apply ClsC.fz rfl (ro_E _ _) | apply ClsC.fz rfl rfl))
  · exact hks_of rfl
theorem putEntry_ac (st : Bool × List UInt8) (e : Entry) (hst : st.2.length ≤ 65536) (hb : e.body.length ≤ 100000000) :
    AC Try.prog 51 [.bp 0 0 0, .ag (eE none e)] [wB st] (fun v bs => v = .bp 0 0 0 ∧ bs = [wB (putE st e)]) := by
  have h1 := addS_len (st := st) (b := intS e.pos) hst
  refine AC.enter Try.func51 rfl rfl Try.ntmps51 (fl1_all rfl) (by (repeat' (first | exact Bk.nil | apply Bk.cons rfl rfl rfl))) ?_
  intro X
  simp only [nm, newS, plc, spl, bldA, bldS, zrow, chunks, ZC.val, Nat.reduceAdd, Nat.reduceSub, BEq.rfl]
  repeat' (first
    | ((first
    | ((with_reducible apply AP.k_any); first
             | (refine AP.s1 rfl ?_ ?_; focus ((repeat' (with_reducible apply And.intro)) <;> (first | exact True.intro | exact rfl | omega | (simp; omega) | (simp; done) | assumption)))
             | refine ap_box rfl rfl rfl rfl ?_
      )
    
    )
      <;> (try simp only [nm, newS, plc, spl, bldA, bldS, zrow, chunks, ZC.val, Nat.reduceAdd, Nat.reduceSub, BEq.rfl]))
    | ((with_reducible apply AP.k_nil); first
        | (refine AP.nil (hQ' _ ?_); clear hQ' Q')
        | refine AP.nil ?_)
    | ((with_reducible apply CP.k_reg); refine cp_regG fun Q' hQ' => ?_)
      | (with_reducible apply CP.k_reg1; refine cp_region ?_)
      | ((with_reducible apply CP.k_cond); first
          | refine cp_condT rfl ?_
          | refine cp_condF rfl ?_
          | refine cp_cond rfl (fun hc => ?_) (fun hc => ?_))
      | (with_reducible first | refine cp_block ?_ | refine cp_exit ?_ | refine cp_ret ?_ | refine cp_skip ?_ | refine cp_seq ?_ | refine inB_hit ?_ | refine inB_n ?_ | refine inB_r ?_ | refine thenQ_n ?_ | refine thenQ_r ?_ | refine thenQ_e ?_ | refine cpn_succ ?_)
      | (refine inB_miss rfl ?_))
  refine cp_drawI (fun zs zb => ⟨setT zs.t [(5, cond (zb.getD 0 false) (.bp 0 0 0) (.tu [])), (6, cond (zb.getD 1 false) (.bp 2 1 0) (.tu [])), (7, cond (zb.getD 2 false) (I e.pos) (.tu [])), (8, cond (zb.getD 3 false) (.bp 0 0 0) (.tu [])), (9, cond (zb.getD 4 false) (.ag (eE none e)) (.tu [])), (10, cond (zb.getD 5 false) (.bp 0 0 0) (.tu [])), (4, cond (zb.getD 6 false) (.bp 0 0 0) (.sc (.pointer none)))], ((zs.b.set 0 (cond (zb.getD 5 false) (⟨0, .c tW [B true, B (putE st e).1, .hd 1 3]⟩) (cond (zb.getD 3 false) (⟨0, .c tW [B true, B (addS st (intS e.pos)).1, .hd 1 2]⟩) (zs.b.getD 0 ⟨0, .x⟩)))).set 1 (cond (zb.getD 5 false) (⟨3, .r tU 1 ((putE st e).2.map eB)⟩) (cond (zb.getD 3 false) (⟨2, .r tU 1 ((addS st (intS e.pos)).2.map eB)⟩) (zs.b.getD 1 ⟨0, .x⟩))))⟩) (by kernel_rfl) (by kernel_rfl) (by kernel_rfl) ?_ ?_
  rotate_left
  simp only [cond_true, cond_false, setT, List.set_cons_succ, List.set_cons_zero, List.getD_cons_succ, List.getD_cons_zero, List.set_cons_succ, List.length_cons, List.length_nil, List.replicate_succ, List.replicate_zero, Nat.reduceAdd]
  rotate_left
  · intro b hb' hcl
    obtain ⟨l0, b0, rfl, hb0⟩ := len_cons hb'
    obtain ⟨l1, b1, rfl, hb1⟩ := len_cons hb0
    obtain ⟨l2, b2, rfl, hb2⟩ := len_cons hb1
    obtain ⟨l3, b3, rfl, hb3⟩ := len_cons hb2
    obtain ⟨l4, b4, rfl, hb4⟩ := len_cons hb3
    obtain ⟨l5, b5, rfl, hb5⟩ := len_cons hb4
    obtain ⟨l6, b6, rfl, hb6⟩ := len_cons hb5
    obtain rfl := List.length_eq_zero_iff.1 hb6
    clear hb' hb0 hb1 hb2 hb3 hb4 hb5 hb6
    · simp only [closedB, depsOk, Region.binds, List.toList_toArray, List.all_cons, List.all_nil, List.getD_cons_succ, List.getD_cons_zero, Bool.not_true, Bool.not_false, Bool.true_or, Bool.false_or, Bool.and_true, Bool.true_and, Bool.or_true, Bool.and_false, Bool.or_false, Bool.false_and, Bool.and_eq_true, Bool.or_eq_true, Bool.not_eq_true'] at hcl
      simp only [StepsP]
      refine ⟨?_, ?_, ?_, ?_, ?_, ?_, ?_, trivial⟩
      · intro h1 h2
        simp [depsOk, Region.binds] at h1 h2
        subst h1
        (repeat (obtain ⟨rfl, h2⟩ := h2))
        (try subst h2)
        clear hcl
        simp only [cond_true, cond_false, setT, List.set_cons_succ, List.set_cons_zero, List.getD_cons_succ, List.getD_cons_zero, List.set_cons_succ]
        (with_reducible apply AP.k_any); first | (refine AP.s1 rfl ?_ ?_; focus ((repeat' (with_reducible apply And.intro)) <;> (first | exact True.intro | exact rfl | omega | (simp; omega) | (simp; done) | assumption))) | fail "no step"
        all_goals (try simp only [nm, newS, plc, spl, bldA, bldS, zrow, chunks, ZC.val, Nat.reduceAdd, Nat.reduceSub, BEq.rfl])
        refine AP.nil ?_
        exact ⟨rfl, rfl⟩
      · intro h1 h2
        simp [depsOk, Region.binds] at h1 h2
        subst h1
        (repeat (obtain ⟨rfl, h2⟩ := h2))
        (try subst h2)
        clear hcl
        simp only [cond_true, cond_false, setT, List.set_cons_succ, List.set_cons_zero, List.getD_cons_succ, List.getD_cons_zero, List.set_cons_succ]
        (with_reducible apply AP.k_any); first | (refine AP.s1 rfl ?_ ?_; focus ((repeat' (with_reducible apply And.intro)) <;> (first | exact True.intro | exact rfl | omega | (simp; omega) | (simp; done) | assumption))) | fail "no step"
        all_goals (try simp only [nm, newS, plc, spl, bldA, bldS, zrow, chunks, ZC.val, Nat.reduceAdd, Nat.reduceSub, BEq.rfl])
        refine AP.nil ?_
        exact ⟨rfl, rfl⟩
      · intro h1 h2
        simp [depsOk, Region.binds] at h1 h2
        subst h1
        (repeat (obtain ⟨rfl, h2⟩ := h2))
        (try subst h2)
        (first | (obtain rfl : l3 = false := by grind only) | skip)
        (first | (obtain rfl : l5 = false := by grind only) | skip)
        clear hcl
        simp only [cond_true, cond_false, setT, List.set_cons_succ, List.set_cons_zero, List.getD_cons_succ, List.getD_cons_zero, List.set_cons_succ]
        (with_reducible apply AP.k_any); first | (refine AP.s1 rfl ?_ ?_; focus ((repeat' (with_reducible apply And.intro)) <;> (first | exact True.intro | exact rfl | omega | (simp; omega) | (simp; done) | assumption))) | refine AP.pure rfl (pq_load1_rp rfl rfl rfl rfl (by (first | (refine ⟨?_, ?_⟩; assumption; rfl) | exact ⟨mapAt (by (first | omega | (simp; omega) | (simp; done) | assumption)), rfl⟩ | exact ⟨rfl, rfl⟩))) ?_ | refine AP.pure rfl (pq_loadN_rp rfl rfl rfl rfl (by (first | (refine ⟨?_, ?_⟩; assumption; rfl) | exact ⟨mapAt (by (first | omega | (simp; omega) | (simp; done) | assumption)), rfl⟩ | exact ⟨rfl, rfl⟩))) ?_ | refine AP.pure rfl (pq_load1_ep rfl rfl rfl rfl rfl (by (first | (refine ⟨?_, ?_⟩; assumption; rfl) | exact ⟨mapAt (by (first | omega | (simp; omega) | (simp; done) | assumption)), rfl⟩ | exact ⟨rfl, rfl⟩))) ?_ | refine AP.pure rfl (pq_loadN_ep rfl rfl rfl rfl rfl (by (first | (refine ⟨?_, ?_⟩; assumption; rfl) | exact ⟨mapAt (by (first | omega | (simp; omega) | (simp; done) | assumption)), rfl⟩ | exact ⟨rfl, rfl⟩))) ?_ | fail "no step"
        all_goals (try simp only [nm, newS, plc, spl, bldA, bldS, zrow, chunks, ZC.val, Nat.reduceAdd, Nat.reduceSub, BEq.rfl])
        refine AP.nil ?_
        exact ⟨rfl, rfl⟩
      · intro h1 h2
        simp [depsOk, Region.binds] at h1 h2
        subst h1
        (repeat (obtain ⟨rfl, h2⟩ := h2))
        (try subst h2)
        (first | (obtain rfl : l5 = false := by grind only) | skip)
        clear hcl
        simp only [cond_true, cond_false, setT, List.set_cons_succ, List.set_cons_zero, List.getD_cons_succ, List.getD_cons_zero, List.set_cons_succ]
        (first
        | ((with_reducible apply AP.k_any); refine ap_callB 0 [(0, 0)] rfl rfl (fn := 49) rfl (wint_ac st e.pos hst) (by (repeat' (first | exact PasC.nil | apply PasC.nil | apply PasC.cons | apply PasV.leaf rfl | apply PasV.nl | apply PasV.bp rfl | apply PasV.lend rfl rfl rfl | apply PasV.lend rfl rfl (ro_B _) | apply PasV.lend rfl rfl (ro_M _) | apply PasV.lend rfl rfl (ro_E _ _) | apply PasV.lend rfl rfl (ro_I _) | apply PasV.mv rfl | apply PasV.ag | apply PasV.fn | exact PasV.fs | apply PasV.any))) (by (repeat' (first | exact Out.nil | apply Out.cons rfl | exact ClsC.nil | apply ClsC.nl | apply ClsC.leaf rfl | apply ClsC.hd rfl | apply ClsC.fn | apply ClsC.fz rfl (ro_B _) | apply ClsC.fz rfl (ro_M _) | apply ClsC.fz rfl (ro_E _ _) | apply ClsC.fz rfl rfl))) rfl (by (repeat' (first | exact Bk.nil | apply Bk.cons rfl rfl rfl))) (by (repeat' (first | exact RnV.leaf rfl | exact RnC.nil | apply RnC.cons | apply RnV.ag | apply RnV.tu | exact RnV.bp rfl))) rfl ?_)
        | fail "no arm")
        all_goals (try simp only [nm, newS, plc, spl, bldA, bldS, zrow, chunks, ZC.val, Nat.reduceAdd, Nat.reduceSub, BEq.rfl])
        refine AP.nil ?_
        exact ⟨rfl, rfl⟩
      · intro h1 h2
        simp [depsOk, Region.binds] at h1 h2
        subst h1
        (repeat (obtain ⟨rfl, h2⟩ := h2))
        (try subst h2)
        (first | (obtain rfl : l5 = false := by grind only) | skip)
        clear hcl
        simp only [cond_true, cond_false, setT, List.set_cons_succ, List.set_cons_zero, List.getD_cons_succ, List.getD_cons_zero, List.set_cons_succ]
        (with_reducible apply AP.k_any); first | (refine AP.s1 rfl ?_ ?_; focus ((repeat' (with_reducible apply And.intro)) <;> (first | exact True.intro | exact rfl | omega | (simp; omega) | (simp; done) | assumption))) | refine AP.pure rfl (pq_load1_rp rfl rfl rfl rfl (by (first | (refine ⟨?_, ?_⟩; assumption; rfl) | exact ⟨mapAt (by (first | omega | (simp; omega) | (simp; done) | assumption)), rfl⟩ | exact ⟨rfl, rfl⟩))) ?_ | refine AP.pure rfl (pq_loadN_rp rfl rfl rfl rfl (by (first | (refine ⟨?_, ?_⟩; assumption; rfl) | exact ⟨mapAt (by (first | omega | (simp; omega) | (simp; done) | assumption)), rfl⟩ | exact ⟨rfl, rfl⟩))) ?_ | refine AP.pure rfl (pq_load1_ep rfl rfl rfl rfl rfl (by (first | (refine ⟨?_, ?_⟩; assumption; rfl) | exact ⟨mapAt (by (first | omega | (simp; omega) | (simp; done) | assumption)), rfl⟩ | exact ⟨rfl, rfl⟩))) ?_ | refine AP.pure rfl (pq_loadN_ep rfl rfl rfl rfl rfl (by (first | (refine ⟨?_, ?_⟩; assumption; rfl) | exact ⟨mapAt (by (first | omega | (simp; omega) | (simp; done) | assumption)), rfl⟩ | exact ⟨rfl, rfl⟩))) ?_ | fail "no step"
        all_goals (try simp only [nm, newS, plc, spl, bldA, bldS, zrow, chunks, ZC.val, Nat.reduceAdd, Nat.reduceSub, BEq.rfl])
        refine AP.nil ?_
        exact ⟨rfl, rfl⟩
      · intro h1 h2
        simp [depsOk, Region.binds] at h1 h2
        subst h1
        (repeat (obtain ⟨rfl, h2⟩ := h2))
        (try subst h2)
        (first | (obtain rfl : l3 = true := by grind only) | skip)
        clear hcl
        simp only [cond_true, cond_false, setT, List.set_cons_succ, List.set_cons_zero, List.getD_cons_succ, List.getD_cons_zero, List.set_cons_succ]
        (first
        | ((with_reducible apply AP.k_any); refine ap_callB 0 [(0, 0)] rfl rfl (fn := 88) rfl (putRest_ac _ e h1 hb) (by (repeat' (first | exact PasC.nil | apply PasC.nil | apply PasC.cons | apply PasV.leaf rfl | apply PasV.nl | apply PasV.bp rfl | apply PasV.lend rfl rfl rfl | apply PasV.lend rfl rfl (ro_B _) | apply PasV.lend rfl rfl (ro_M _) | apply PasV.lend rfl rfl (ro_E _ _) | apply PasV.lend rfl rfl (ro_I _) | apply PasV.mv rfl | apply PasV.ag | apply PasV.fn | exact PasV.fs | apply PasV.any))) (by (repeat' (first | exact Out.nil | apply Out.cons rfl | exact ClsC.nil | apply ClsC.nl | apply ClsC.leaf rfl | apply ClsC.hd rfl | apply ClsC.fn | apply ClsC.fz rfl (ro_B _) | apply ClsC.fz rfl (ro_M _) | apply ClsC.fz rfl (ro_E _ _) | apply ClsC.fz rfl rfl))) rfl (by (repeat' (first | exact Bk.nil | apply Bk.cons rfl rfl rfl))) (by (repeat' (first | exact RnV.leaf rfl | exact RnC.nil | apply RnC.cons | apply RnV.ag | apply RnV.tu | exact RnV.bp rfl))) rfl ?_)
        | fail "no arm")
        all_goals (try simp only [nm, newS, plc, spl, bldA, bldS, zrow, chunks, ZC.val, Nat.reduceAdd, Nat.reduceSub, BEq.rfl])
        refine AP.nil ?_
        exact ⟨rfl, rfl⟩
      · intro h1 h2
        simp [depsOk, Region.binds] at h1 h2
        subst h1
        (repeat (obtain ⟨rfl, h2⟩ := h2))
        (try subst h2)
        clear hcl
        simp only [cond_true, cond_false, setT, List.set_cons_succ, List.set_cons_zero, List.getD_cons_succ, List.getD_cons_zero, List.set_cons_succ]
        (with_reducible apply AP.k_any); first | (refine AP.s1 rfl ?_ ?_; focus ((repeat' (with_reducible apply And.intro)) <;> (first | exact True.intro | exact rfl | omega | (simp; omega) | (simp; done) | assumption))) | fail "no step"
        all_goals (try simp only [nm, newS, plc, spl, bldA, bldS, zrow, chunks, ZC.val, Nat.reduceAdd, Nat.reduceSub, BEq.rfl])
        refine AP.nil ?_
        exact ⟨rfl, rfl⟩
  repeat' (first
    | ((first
    | ((with_reducible apply AP.k_any); first
             | (refine AP.s1 rfl ?_ ?_; focus ((repeat' (with_reducible apply And.intro)) <;> (first | exact True.intro | exact rfl | omega | (simp; omega) | (simp; done) | assumption)))
             | refine ap_box rfl rfl rfl rfl ?_
      )
    
    )
      <;> (try simp only [nm, newS, plc, spl, bldA, bldS, zrow, chunks, ZC.val, Nat.reduceAdd, Nat.reduceSub, BEq.rfl]))
    | ((with_reducible apply AP.k_nil); first
        | (refine AP.nil (hQ' _ ?_); clear hQ' Q')
        | refine AP.nil ?_)
    | ((with_reducible apply CP.k_reg); refine cp_regG fun Q' hQ' => ?_)
      | (with_reducible apply CP.k_reg1; refine cp_region ?_)
      | ((with_reducible apply CP.k_cond); first
          | refine cp_condT rfl ?_
          | refine cp_condF rfl ?_
          | refine cp_cond rfl (fun hc => ?_) (fun hc => ?_))
      | (with_reducible first | refine cp_block ?_ | refine cp_exit ?_ | refine cp_ret ?_ | refine cp_skip ?_ | refine cp_seq ?_ | refine inB_hit ?_ | refine inB_n ?_ | refine inB_r ?_ | refine thenQ_n ?_ | refine thenQ_r ?_ | refine thenQ_e ?_ | refine cpn_succ ?_)
      | (refine inB_miss rfl ?_))
  apply RetQ.mk (ks := [(0, 0)]) (by first | exact .inr rfl | exact .inl rfl) (by exact ⟨rfl, rfl⟩)
  · (repeat' (first | exact RnV.leaf rfl | exact RnC.nil | apply RnC.cons | apply RnV.ag | apply RnV.tu | exact RnV.bp rfl))
  · (repeat' (first | exact ResL.nil | apply ResL.cons (Res1.row rfl rfl rfl rfl rfl) | apply ResL.cons (Res1.flat rfl rfl rfl rfl rfl) | apply ResL.cons (Res1.tmp (by (try simp only [List.getD_cons_succ, List.getD_cons_zero]); exact rfl))))
  · (repeat' (first | exact ClsC.nil | exact ClsL.nil | apply ClsC.nl | apply ClsC.leaf rfl | apply ClsC.hd rfl | apply ClsC.fn | apply ClsR.tu | apply ClsL.cons | apply ClsV.ag | exact ClsV.bp | exact ClsV.one (ClsC.leaf rfl ClsC.nil) | exact ClsV.one (ClsC.nl ClsC.nil) | exact ClsV.one (ClsC.hd rfl ClsC.nil) | apply ClsR.one))
  · (repeat' (first | exact Out.nil | apply Out.cons rfl | exact ClsC.nil | apply ClsC.nl | apply ClsC.leaf rfl | apply ClsC.hd rfl | apply ClsC.fn | apply ClsC.fz rfl (ro_B _) | apply ClsC.fz rfl (ro_M _) | apply ClsC.fz rfl (ro_E _ _) | apply ClsC.fz rfl rfl))
  · exact hks_of rfl
end Go.Proofs.Ytkdbedbefojieaa
