/-
  For every entry and every configuration (of bulk at most 1048576) the law MessageParts returns true, and each argument reads behind the call as it did. No other condition.
-/
import Derived.Test.YtpdegeknhapgmaaVa
import Derived.Test.YtpdegeknhapgmaaV4
import Derived.Test.YtpdegeknhapgmaaW8
import Derived.Test.YtpdegeknhapgmaaBrE
import Derived.Deep.CondSized
namespace Go.Proofs.Ytpdegeknhapgmaa
set_option linter.unusedVariables false
set_option linter.unusedSimpArgs false
set_option maxHeartbeats 8000000
open Go.RowKit Go.ChangeShapes Go.WideShapes Go.ChangeAt Go.Deep
set_option maxRecDepth 100000
theorem parts_ac (e : Entry) (c : Config) (hb : e.body.length ≤ 100000000) (hl : c.members.length ≤ 100000000) :
    AC Try.prog 3 [.ag (eE none e), .ag (eC none c)] [] (fun v bs' => v = B true ∧ bs' = []) := by
  by_cases hg : 5000 < e.body.length ∨ 50 < c.members.length
  · refine AC.enter Try.func3 rfl rfl Try.ntmps3 (fl1_all rfl) (by (repeat' (first | exact Bk.nil | apply Bk.cons rfl rfl rfl))) ?_
    intro X
    simp only [nm, newS, plc, spl, bldA, bldS, zrow, chunks, ZC.val, Nat.reduceAdd, Nat.reduceSub, BEq.rfl]
    repeat' (first
      | ((first
      | ((with_reducible apply AP.k_any); first
               | (refine AP.s1 rfl ?_ ?_; focus ((repeat' (with_reducible apply And.intro)) <;> (first | exact True.intro | exact rfl | omega | (simp; omega) | (simp; done) | assumption)))
               | (refine AP.s2 rfl ?_ ?_; focus ((repeat' (with_reducible apply And.intro)) <;> (first | exact True.intro | exact rfl | omega | (simp; omega) | (simp; done) | assumption)))
               | (refine AP.gyes rfl rfl rfl ?_; dsimp only) | refine AP.gno rfl rfl rfl rfl ?_ | refine AP.gund rfl rfl rfl ?_ | (refine AP.gsplit rfl rfl rfl (fun hg => ?_) (fun hg => ?_))
               | refine ap_box rfl rfl rfl rfl ?_
        )
      
      )
        <;> (try simp only [nm, newS, plc, spl, bldA, bldS, zrow, chunks, ZC.val, Nat.reduceAdd, Nat.reduceSub, BEq.rfl]))
      | ((with_reducible apply AP.k_nil); first
          | (refine AP.nil (hQ' _ ?_); clear hQ' Q')
          | refine AP.nil ?_)
      | ((with_reducible apply CP.k_reg); refine cp_regG fun Q' hQ' => ?_)
        | (with_reducible apply CP.k_reg1; refine cp_region ?_)
        | ((with_reducible apply CP.k_cond); first
            | refine cp_condT rfl ?_
            | refine cp_condF rfl ?_
            | refine cp_cond rfl (fun hc => ?_) (fun hc => ?_))
        | (with_reducible first | refine cp_block ?_ | refine cp_exit ?_ | refine cp_ret ?_ | refine cp_skip ?_ | refine cp_seq ?_ | refine inB_hit ?_ | refine inB_n ?_ | refine inB_r ?_ | refine thenQ_n ?_ | refine thenQ_r ?_ | refine thenQ_e ?_ | refine cpn_succ ?_)
        | (refine inB_miss rfl ?_))
    all_goals first
      | apply RetQ.mk (ks := []) (by first | exact .inr rfl | exact .inl rfl)
        case hl => (repeat' (first | exact ResL.nil | apply ResL.cons (Res1.row rfl rfl rfl rfl rfl) | apply ResL.cons (Res1.flat rfl rfl rfl rfl rfl) | apply ResL.cons (Res1.tmp (by (try simp only [List.getD_cons_succ, List.getD_cons_zero]); exact rfl))))
        case hc => (repeat' (first | exact ClsC.nil | exact ClsL.nil | apply ClsC.nl | apply ClsC.leaf rfl | apply ClsC.hd rfl | apply ClsC.fn | apply ClsR.tu | apply ClsL.cons | apply ClsV.ag | exact ClsV.bp | exact ClsV.one (ClsC.leaf rfl ClsC.nil) | exact ClsV.one (ClsC.nl ClsC.nil) | exact ClsV.one (ClsC.hd rfl ClsC.nil) | apply ClsR.one))
        case hr => (repeat' (first | exact RnV.leaf rfl | exact RnC.nil | apply RnC.cons | apply RnV.ag | apply RnV.tu | exact RnV.bp rfl))
        case ho => (repeat' (first | exact Out.nil | apply Out.cons rfl | exact ClsC.nil | apply ClsC.nl | apply ClsC.leaf rfl | apply ClsC.hd rfl | apply ClsC.fn | apply ClsC.fz rfl (ro_B _) | apply ClsC.fz rfl (ro_M _) | apply ClsC.fz rfl (ro_E _ _) | apply ClsC.fz rfl rfl))
        case hk => exact hks_of rfl
        case hq => (try dsimp only [resV, List.getD_cons_succ, List.getD_cons_zero]); exact ⟨rfl, rfl⟩
      | (exfalso; simp at *; omega)
  · have hb1 : e.body.length ≤ 5000 := by omega
    have hl1 : c.members.length ≤ 50 := by omega
    have w0 : ((false, []) : Bool × List UInt8).2.length ≤ 65536 := by simp
    have h1 := putEntry_ac (false, []) e w0 hb
    rw [putE_ok (by simp; omega), List.nil_append] at h1
    have h2 := putConfig_ac (false, []) c w0 hl
    rw [putC_ok (by simp; omega), List.nil_append] at h2
    have lE : (entryF e).length = 36 + e.body.length := by simp [entryF, intS_length, restF_length]; omega
    have lC : (configF c).length = 16 + 17 * c.members.length := configF_length c
    have d1 := wdone_ac (false, entryF e) (by simp; omega)
    have d2 := wdone_ac (false, configF c) (by simp; omega)
    have f1 := (dentry_ac e (by omega)).ro (r2 := bs none (entryF e)) (by simp only [AV.ro, ro_B])
    have f2 := (dconfig_ac c (by omega)).ro (r2 := bs none (configF c)) (by simp only [AV.ro, ro_B])
    have s1 := same_ac (entryF e) (entryF e) (by omega)
    rw [decide_eq_true rfl] at s1
    have s2 := same_ac (configF c) (configF c) (by omega)
    rw [decide_eq_true rfl] at s2
    have m1 := mayEntry_ac e
    have n1 := dmayEntry_ac e
    have m2 := mayConfig_ac c hl
    have n2 := dmayConfig_ac c hl
    generalize mayE e = x at m1 n1
    generalize mayCfg c = y at m2 n2
    have hx : ∀ z : Bool, (z == z) = true := by decide
    refine AC.enter Try.func3 rfl rfl Try.ntmps3 (fl1_all rfl) (by (repeat' (first | exact Bk.nil | apply Bk.cons rfl rfl rfl))) ?_
    intro X
    simp only [nm, newS, plc, spl, bldA, bldS, zrow, chunks, ZC.val, Nat.reduceAdd, Nat.reduceSub, BEq.rfl]
    repeat' (first
      | ((first
      | ((with_reducible apply AP.k_any); first
               | (refine AP.s1 rfl ?_ ?_; focus ((repeat' (with_reducible apply And.intro)) <;> (first | exact True.intro | exact rfl | omega | (simp; omega) | (simp; done) | assumption)))
               | (refine AP.s2 rfl ?_ ?_; focus ((repeat' (with_reducible apply And.intro)) <;> (first | exact True.intro | exact rfl | omega | (simp; omega) | (simp; done) | assumption)))
               | (refine AP.gyes rfl rfl rfl ?_; dsimp only) | refine AP.gno rfl rfl rfl rfl ?_ | refine AP.gund rfl rfl rfl ?_ | (refine AP.gsplit rfl rfl rfl (fun hg => ?_) (fun hg => ?_))
               | refine ap_box rfl rfl rfl rfl ?_
        )
      
      )
        <;> (try simp only [nm, newS, plc, spl, bldA, bldS, zrow, chunks, ZC.val, Nat.reduceAdd, Nat.reduceSub, BEq.rfl]))
      | ((with_reducible apply AP.k_nil); first
          | (refine AP.nil (hQ' _ ?_); clear hQ' Q')
          | refine AP.nil ?_)
      | ((with_reducible apply CP.k_reg); refine cp_regG fun Q' hQ' => ?_)
        | (with_reducible apply CP.k_reg1; refine cp_region ?_)
        | ((with_reducible apply CP.k_cond); first
            | refine cp_condT rfl ?_
            | refine cp_condF rfl ?_
            | refine cp_cond rfl (fun hc => ?_) (fun hc => ?_))
        | (with_reducible first | refine cp_block ?_ | refine cp_exit ?_ | refine cp_ret ?_ | refine cp_skip ?_ | refine cp_seq ?_ | refine inB_hit ?_ | refine inB_n ?_ | refine inB_r ?_ | refine thenQ_n ?_ | refine thenQ_r ?_ | refine thenQ_e ?_ | refine cpn_succ ?_)
        | (refine inB_miss rfl ?_))
    · exfalso; simp at *; omega
    · exfalso; simp at *; omega
    refine CP.gh gh_slot ?_; simp only [nm, newS, plc, spl, bldA, bldS, zrow, chunks, ZC.val, Nat.reduceAdd, Nat.reduceSub, BEq.rfl]
    refine CP.gh gh_slot ?_; simp only [nm, newS, plc, spl, bldA, bldS, zrow, chunks, ZC.val, Nat.reduceAdd, Nat.reduceSub, BEq.rfl]
    refine CP.gh gh_slot ?_; simp only [nm, newS, plc, spl, bldA, bldS, zrow, chunks, ZC.val, Nat.reduceAdd, Nat.reduceSub, BEq.rfl]
    refine CP.gh gh_slot ?_; simp only [nm, newS, plc, spl, bldA, bldS, zrow, chunks, ZC.val, Nat.reduceAdd, Nat.reduceSub, BEq.rfl]
    refine cp_drawI (fun zs zb => ⟨setT zs.t [(20, cond (zb.getD 0 false) (.bp 2 1 0) (.tu [])), (21, cond (zb.getD 1 false) (.ag (eE none e)) (.tu [])), (22, cond (zb.getD 2 false) (.bp 2 1 0) (.tu [])), (23, cond (zb.getD 3 false) (.tu [bs none (entryF e), I 0]) (.tu [])), (19, cond (zb.getD 4 false) (.tu [bs none (entryF e), I 0]) (.tu [])), (24, cond (zb.getD 5 false) (bs none (entryF e)) (.tu [])), (25, cond (zb.getD 6 false) (I 0) (.tu [])), (5, cond (zb.getD 7 false) (bs none (entryF e)) (.tu [])), (6, cond (zb.getD 8 false) (I 0) (.tu []))], ((zs.b.set 2 (cond (zb.getD 3 false) (⟨1, wD (false, entryF e)⟩) (cond (zb.getD 2 false) (⟨1, .c tW [B true, B false, .hd 3 2]⟩) (cond (zb.getD 0 false) (⟨1, .c tW [B true, B false, .hd 3 1]⟩) (zs.b.getD 2 ⟨0, .x⟩))))).set 3 (cond (zb.getD 3 false) (⟨2, .x⟩) (cond (zb.getD 2 false) (⟨2, .r tU 1 ((entryF e).map eB)⟩) (cond (zb.getD 0 false) (⟨1, .r tU 1 []⟩) (zs.b.getD 3 ⟨0, .x⟩)))))⟩) (by kernel_rfl) (by kernel_rfl) (by kernel_rfl) ?_ ?_
    rotate_left
    simp only [cond_true, cond_false, setT, List.set_cons_succ, List.set_cons_zero, List.getD_cons_succ, List.getD_cons_zero, List.set_cons_succ, List.length_cons, List.length_nil, List.replicate_succ, List.replicate_zero, Nat.reduceAdd]
    rotate_left
    · intro b hb' hcl
      obtain ⟨l0, b0, rfl, hb0⟩ := len_cons hb'
      obtain ⟨l1, b1, rfl, hb1⟩ := len_cons hb0
      obtain ⟨l2, b2, rfl, hb2⟩ := len_cons hb1
      obtain ⟨l3, b3, rfl, hb3⟩ := len_cons hb2
      obtain ⟨l4, b4, rfl, hb4⟩ := len_cons hb3
      obtain ⟨l5, b5, rfl, hb5⟩ := len_cons hb4
      obtain ⟨l6, b6, rfl, hb6⟩ := len_cons hb5
      obtain ⟨l7, b7, rfl, hb7⟩ := len_cons hb6
      obtain ⟨l8, b8, rfl, hb8⟩ := len_cons hb7
      obtain rfl := List.length_eq_zero_iff.1 hb8
      clear hb' hb0 hb1 hb2 hb3 hb4 hb5 hb6 hb7 hb8
      · simp only [closedB, depsOk, Region.binds, List.toList_toArray, List.all_cons, List.all_nil, List.getD_cons_succ, List.getD_cons_zero, Bool.not_true, Bool.not_false, Bool.true_or, Bool.false_or, Bool.and_true, Bool.true_and, Bool.or_true, Bool.and_false, Bool.or_false, Bool.false_and, Bool.and_eq_true, Bool.or_eq_true, Bool.not_eq_true'] at hcl
        simp only [StepsP]
        refine ⟨?_, ?_, ?_, ?_, ?_, ?_, ?_, ?_, ?_, trivial⟩
        · intro h1 h2
          simp [depsOk, Region.binds] at h1 h2
          subst h1
          (repeat (obtain ⟨rfl, h2⟩ := h2))
          (try subst h2)
          (first | (obtain rfl : l2 = false := by grind only) | skip)
          (first | (obtain rfl : l3 = false := by grind only) | skip)
          clear hcl
          simp only [cond_true, cond_false, setT, List.set_cons_succ, List.set_cons_zero, List.getD_cons_succ, List.getD_cons_zero, List.set_cons_succ]
          (first
          | ((with_reducible apply AP.k_any); refine ap_callB 1 [] rfl rfl (fn := 11) rfl (wnew_ac) (by (repeat' (first | exact PasC.nil | apply PasC.nil | apply PasC.cons | apply PasV.leaf rfl | apply PasV.nl | apply PasV.bp rfl | apply PasV.lend rfl rfl rfl | apply PasV.lend rfl rfl (ro_B _) | apply PasV.lend rfl rfl (ro_M _) | apply PasV.lend rfl rfl (ro_E _ _) | apply PasV.lend rfl rfl (ro_I _) | apply PasV.mv rfl | apply PasV.ag | apply PasV.fn | exact PasV.fs | apply PasV.any))) (by (repeat' (first | exact Out.nil | apply Out.cons rfl | exact ClsC.nil | apply ClsC.nl | apply ClsC.leaf rfl | apply ClsC.hd rfl | apply ClsC.fn | apply ClsC.fz rfl (ro_B _) | apply ClsC.fz rfl (ro_M _) | apply ClsC.fz rfl (ro_E _ _) | apply ClsC.fz rfl rfl))) rfl (by (repeat' (first | exact Bk.nil | apply Bk.cons rfl rfl rfl))) (by (repeat' (first | exact RnV.leaf rfl | exact RnC.nil | apply RnC.cons | apply RnV.ag | apply RnV.tu | exact RnV.bp rfl))) rfl ?_)
          | fail "no arm")
          all_goals (try simp only [nm, newS, plc, spl, bldA, bldS, zrow, chunks, ZC.val, Nat.reduceAdd, Nat.reduceSub, BEq.rfl])
          refine AP.nil ?_
          exact ⟨rfl, rfl⟩
        · intro h1 h2
          simp [depsOk, Region.binds] at h1 h2
          subst h1
          (repeat (obtain ⟨rfl, h2⟩ := h2))
          (try subst h2)
          (first | (obtain rfl : l2 = false := by grind only) | skip)
          (first | (obtain rfl : l3 = false := by grind only) | skip)
          clear hcl
          simp only [cond_true, cond_false, setT, List.set_cons_succ, List.set_cons_zero, List.getD_cons_succ, List.getD_cons_zero, List.set_cons_succ]
          (with_reducible apply AP.k_any); first | (refine AP.s1 rfl ?_ ?_; focus ((repeat' (with_reducible apply And.intro)) <;> (first | exact True.intro | exact rfl | omega | (simp; omega) | (simp; done) | assumption))) | refine AP.pure rfl (pq_load1_rp rfl rfl rfl rfl (by (first | (refine ⟨?_, ?_⟩; assumption; rfl) | exact ⟨mapAt (by (first | omega | (simp; omega) | (simp; done) | assumption)), rfl⟩ | exact ⟨rfl, rfl⟩))) ?_ | refine AP.pure rfl (pq_loadN_rp rfl rfl rfl rfl (by (first | (refine ⟨?_, ?_⟩; assumption; rfl) | exact ⟨mapAt (by (first | omega | (simp; omega) | (simp; done) | assumption)), rfl⟩ | exact ⟨rfl, rfl⟩))) ?_ | refine AP.pure rfl (pq_load1_ep rfl rfl rfl rfl rfl (by (first | (refine ⟨?_, ?_⟩; assumption; rfl) | exact ⟨mapAt (by (first | omega | (simp; omega) | (simp; done) | assumption)), rfl⟩ | exact ⟨rfl, rfl⟩))) ?_ | refine AP.pure rfl (pq_loadN_ep rfl rfl rfl rfl rfl (by (first | (refine ⟨?_, ?_⟩; assumption; rfl) | exact ⟨mapAt (by (first | omega | (simp; omega) | (simp; done) | assumption)), rfl⟩ | exact ⟨rfl, rfl⟩))) ?_ | fail "no step"
          all_goals (try simp only [nm, newS, plc, spl, bldA, bldS, zrow, chunks, ZC.val, Nat.reduceAdd, Nat.reduceSub, BEq.rfl])
          refine AP.nil ?_
          exact ⟨rfl, rfl⟩
        · intro h1 h2
          simp [depsOk, Region.binds] at h1 h2
          subst h1
          (repeat (obtain ⟨rfl, h2⟩ := h2))
          (try subst h2)
          (first | (obtain rfl : l0 = true := by grind only) | skip)
          (first | (obtain rfl : l3 = false := by grind only) | skip)
          clear hcl
          simp only [cond_true, cond_false, setT, List.set_cons_succ, List.set_cons_zero, List.getD_cons_succ, List.getD_cons_zero, List.set_cons_succ]
          (first
          | ((with_reducible apply AP.k_any); refine ap_callB 0 [(2, 1)] rfl rfl (fn := 10) rfl (h1) (by (repeat' (first | exact PasC.nil | apply PasC.nil | apply PasC.cons | apply PasV.leaf rfl | apply PasV.nl | apply PasV.bp rfl | apply PasV.lend rfl rfl rfl | apply PasV.lend rfl rfl (ro_B _) | apply PasV.lend rfl rfl (ro_M _) | apply PasV.lend rfl rfl (ro_E _ _) | apply PasV.lend rfl rfl (ro_I _) | apply PasV.mv rfl | apply PasV.ag | apply PasV.fn | exact PasV.fs | apply PasV.any))) (by (repeat' (first | exact Out.nil | apply Out.cons rfl | exact ClsC.nil | apply ClsC.nl | apply ClsC.leaf rfl | apply ClsC.hd rfl | apply ClsC.fn | apply ClsC.fz rfl (ro_B _) | apply ClsC.fz rfl (ro_M _) | apply ClsC.fz rfl (ro_E _ _) | apply ClsC.fz rfl rfl))) rfl (by (repeat' (first | exact Bk.nil | apply Bk.cons rfl rfl rfl))) (by (repeat' (first | exact RnV.leaf rfl | exact RnC.nil | apply RnC.cons | apply RnV.ag | apply RnV.tu | exact RnV.bp rfl))) rfl ?_)
          | fail "no arm")
          all_goals (try simp only [nm, newS, plc, spl, bldA, bldS, zrow, chunks, ZC.val, Nat.reduceAdd, Nat.reduceSub, BEq.rfl])
          refine AP.nil ?_
          exact ⟨rfl, rfl⟩
        · intro h1 h2
          simp [depsOk, Region.binds] at h1 h2
          subst h1
          (repeat (obtain ⟨rfl, h2⟩ := h2))
          (try subst h2)
          (first | (obtain rfl : l0 = true := by grind only) | skip)
          (first | (obtain rfl : l2 = true := by grind only) | skip)
          clear hcl
          simp only [cond_true, cond_false, setT, List.set_cons_succ, List.set_cons_zero, List.getD_cons_succ, List.getD_cons_zero, List.set_cons_succ]
          (first
          | ((with_reducible apply AP.k_any); refine ap_callB 0 [(2, 1)] rfl rfl (fn := 12) rfl (d1) (by (repeat' (first | exact PasC.nil | apply PasC.nil | apply PasC.cons | apply PasV.leaf rfl | apply PasV.nl | apply PasV.bp rfl | apply PasV.lend rfl rfl rfl | apply PasV.lend rfl rfl (ro_B _) | apply PasV.lend rfl rfl (ro_M _) | apply PasV.lend rfl rfl (ro_E _ _) | apply PasV.lend rfl rfl (ro_I _) | apply PasV.mv rfl | apply PasV.ag | apply PasV.fn | exact PasV.fs | apply PasV.any))) (by (repeat' (first | exact Out.nil | apply Out.cons rfl | exact ClsC.nil | apply ClsC.nl | apply ClsC.leaf rfl | apply ClsC.hd rfl | apply ClsC.fn | apply ClsC.fz rfl (ro_B _) | apply ClsC.fz rfl (ro_M _) | apply ClsC.fz rfl (ro_E _ _) | apply ClsC.fz rfl rfl))) rfl (by (repeat' (first | exact Bk.nil | apply Bk.cons rfl rfl rfl))) (by (repeat' (first | exact RnV.leaf rfl | exact RnC.nil | apply RnC.cons | apply RnV.ag | apply RnV.tu | exact RnV.bp rfl))) rfl ?_)
          | fail "no arm")
          all_goals (try simp only [nm, newS, plc, spl, bldA, bldS, zrow, chunks, ZC.val, Nat.reduceAdd, Nat.reduceSub, BEq.rfl])
          refine AP.nil ?_
          exact ⟨rfl, rfl⟩
        · intro h1 h2
          simp [depsOk, Region.binds] at h1 h2
          subst h1
          (repeat (obtain ⟨rfl, h2⟩ := h2))
          (try subst h2)
          clear hcl
          simp only [cond_true, cond_false, setT, List.set_cons_succ, List.set_cons_zero, List.getD_cons_succ, List.getD_cons_zero, List.set_cons_succ]
          (with_reducible apply AP.k_any); first | (refine AP.s1 rfl ?_ ?_; focus ((repeat' (with_reducible apply And.intro)) <;> (first | exact True.intro | exact rfl | omega | (simp; omega) | (simp; done) | assumption))) | fail "no step"
          all_goals (try simp only [nm, newS, plc, spl, bldA, bldS, zrow, chunks, ZC.val, Nat.reduceAdd, Nat.reduceSub, BEq.rfl])
          refine AP.nil ?_
          exact ⟨rfl, rfl⟩
        · intro h1 h2
          simp [depsOk, Region.binds] at h1 h2
          subst h1
          (repeat (obtain ⟨rfl, h2⟩ := h2))
          (try subst h2)
          clear hcl
          simp only [cond_true, cond_false, setT, List.set_cons_succ, List.set_cons_zero, List.getD_cons_succ, List.getD_cons_zero, List.set_cons_succ]
          (with_reducible apply AP.k_any); first | (refine AP.s1 rfl ?_ ?_; focus ((repeat' (with_reducible apply And.intro)) <;> (first | exact True.intro | exact rfl | omega | (simp; omega) | (simp; done) | assumption))) | fail "no step"
          all_goals (try simp only [nm, newS, plc, spl, bldA, bldS, zrow, chunks, ZC.val, Nat.reduceAdd, Nat.reduceSub, BEq.rfl])
          refine AP.nil ?_
          exact ⟨rfl, rfl⟩
        · intro h1 h2
          simp [depsOk, Region.binds] at h1 h2
          subst h1
          (repeat (obtain ⟨rfl, h2⟩ := h2))
          (try subst h2)
          clear hcl
          simp only [cond_true, cond_false, setT, List.set_cons_succ, List.set_cons_zero, List.getD_cons_succ, List.getD_cons_zero, List.set_cons_succ]
          (with_reducible apply AP.k_any); first | (refine AP.s1 rfl ?_ ?_; focus ((repeat' (with_reducible apply And.intro)) <;> (first | exact True.intro | exact rfl | omega | (simp; omega) | (simp; done) | assumption))) | fail "no step"
          all_goals (try simp only [nm, newS, plc, spl, bldA, bldS, zrow, chunks, ZC.val, Nat.reduceAdd, Nat.reduceSub, BEq.rfl])
          refine AP.nil ?_
          exact ⟨rfl, rfl⟩
        · intro h1 h2
          simp [depsOk, Region.binds] at h1 h2
          subst h1
          (repeat (obtain ⟨rfl, h2⟩ := h2))
          (try subst h2)
          clear hcl
          simp only [cond_true, cond_false, setT, List.set_cons_succ, List.set_cons_zero, List.getD_cons_succ, List.getD_cons_zero, List.set_cons_succ]
          (with_reducible apply AP.k_any); first | (refine AP.s1 rfl ?_ ?_; focus ((repeat' (with_reducible apply And.intro)) <;> (first | exact True.intro | exact rfl | omega | (simp; omega) | (simp; done) | assumption))) | fail "no step"
          all_goals (try simp only [nm, newS, plc, spl, bldA, bldS, zrow, chunks, ZC.val, Nat.reduceAdd, Nat.reduceSub, BEq.rfl])
          refine AP.nil ?_
          exact ⟨rfl, rfl⟩
        · intro h1 h2
          simp [depsOk, Region.binds] at h1 h2
          subst h1
          (repeat (obtain ⟨rfl, h2⟩ := h2))
          (try subst h2)
          clear hcl
          simp only [cond_true, cond_false, setT, List.set_cons_succ, List.set_cons_zero, List.getD_cons_succ, List.getD_cons_zero, List.set_cons_succ]
          (with_reducible apply AP.k_any); first | (refine AP.s1 rfl ?_ ?_; focus ((repeat' (with_reducible apply And.intro)) <;> (first | exact True.intro | exact rfl | omega | (simp; omega) | (simp; done) | assumption))) | fail "no step"
          all_goals (try simp only [nm, newS, plc, spl, bldA, bldS, zrow, chunks, ZC.val, Nat.reduceAdd, Nat.reduceSub, BEq.rfl])
          refine AP.nil ?_
          exact ⟨rfl, rfl⟩
    repeat' (first
      | ((first
      | ((with_reducible apply AP.k_any); first
               | (refine AP.s1 rfl ?_ ?_; focus ((repeat' (with_reducible apply And.intro)) <;> (first | exact True.intro | exact rfl | omega | (simp; omega) | (simp; done) | assumption)))
               | (refine AP.s2 rfl ?_ ?_; focus ((repeat' (with_reducible apply And.intro)) <;> (first | exact True.intro | exact rfl | omega | (simp; omega) | (simp; done) | assumption)))
               | (refine AP.gyes rfl rfl rfl ?_; dsimp only) | refine AP.gno rfl rfl rfl rfl ?_ | refine AP.gund rfl rfl rfl ?_ | (refine AP.gsplit rfl rfl rfl (fun hg => ?_) (fun hg => ?_))
               | refine ap_box rfl rfl rfl rfl ?_
        )
      
      )
        <;> (try simp only [nm, newS, plc, spl, bldA, bldS, zrow, chunks, ZC.val, Nat.reduceAdd, Nat.reduceSub, BEq.rfl]))
      | ((with_reducible apply AP.k_nil); first
          | (refine AP.nil (hQ' _ ?_); clear hQ' Q')
          | refine AP.nil ?_)
      | ((with_reducible apply CP.k_reg); refine cp_regG fun Q' hQ' => ?_)
        | (with_reducible apply CP.k_reg1; refine cp_region ?_)
        | ((with_reducible apply CP.k_cond); first
            | refine cp_condT rfl ?_
            | refine cp_condF rfl ?_
            | refine cp_cond rfl (fun hc => ?_) (fun hc => ?_))
        | (with_reducible first | refine cp_block ?_ | refine cp_exit ?_ | refine cp_ret ?_ | refine cp_skip ?_ | refine cp_seq ?_ | refine inB_hit ?_ | refine inB_n ?_ | refine inB_r ?_ | refine thenQ_n ?_ | refine thenQ_r ?_ | refine thenQ_e ?_ | refine cpn_succ ?_)
        | (refine inB_miss rfl ?_))
    refine cp_drawI (fun zs zb => ⟨setT zs.t [(27, cond (zb.getD 0 false) (.bp 3 3 0) (.tu [])), (28, cond (zb.getD 1 false) (.ag (eC none c)) (.tu [])), (29, cond (zb.getD 2 false) (.bp 3 3 0) (.tu [])), (30, cond (zb.getD 3 false) (.tu [bs none (configF c), I 0]) (.tu [])), (26, cond (zb.getD 4 false) (.tu [bs none (configF c), I 0]) (.tu [])), (31, cond (zb.getD 5 false) (bs none (configF c)) (.tu [])), (32, cond (zb.getD 6 false) (I 0) (.tu [])), (7, cond (zb.getD 7 false) (bs none (configF c)) (.tu [])), (8, cond (zb.getD 8 false) (I 0) (.tu []))], ((zs.b.set 3 (cond (zb.getD 3 false) (⟨3, wD (false, configF c)⟩) (cond (zb.getD 2 false) (⟨3, .c tW [B true, B false, .hd 4 2]⟩) (cond (zb.getD 0 false) (⟨3, .c tW [B true, B false, .hd 4 1]⟩) (zs.b.getD 3 ⟨0, .x⟩))))).set 4 (cond (zb.getD 3 false) (⟨2, .x⟩) (cond (zb.getD 2 false) (⟨2, .r tU 1 ((configF c).map eB)⟩) (cond (zb.getD 0 false) (⟨1, .r tU 1 []⟩) (zs.b.getD 4 ⟨0, .x⟩)))))⟩) (by kernel_rfl) (by kernel_rfl) (by kernel_rfl) ?_ ?_
    rotate_left
    simp only [cond_true, cond_false, setT, List.set_cons_succ, List.set_cons_zero, List.getD_cons_succ, List.getD_cons_zero, List.set_cons_succ, List.length_cons, List.length_nil, List.replicate_succ, List.replicate_zero, Nat.reduceAdd]
    rotate_left
    · intro b hb' hcl
      obtain ⟨l0, b0, rfl, hb0⟩ := len_cons hb'
      obtain ⟨l1, b1, rfl, hb1⟩ := len_cons hb0
      obtain ⟨l2, b2, rfl, hb2⟩ := len_cons hb1
      obtain ⟨l3, b3, rfl, hb3⟩ := len_cons hb2
      obtain ⟨l4, b4, rfl, hb4⟩ := len_cons hb3
      obtain ⟨l5, b5, rfl, hb5⟩ := len_cons hb4
      obtain ⟨l6, b6, rfl, hb6⟩ := len_cons hb5
      obtain ⟨l7, b7, rfl, hb7⟩ := len_cons hb6
      obtain ⟨l8, b8, rfl, hb8⟩ := len_cons hb7
      obtain rfl := List.length_eq_zero_iff.1 hb8
      clear hb' hb0 hb1 hb2 hb3 hb4 hb5 hb6 hb7 hb8
      · simp only [closedB, depsOk, Region.binds, List.toList_toArray, List.all_cons, List.all_nil, List.getD_cons_succ, List.getD_cons_zero, Bool.not_true, Bool.not_false, Bool.true_or, Bool.false_or, Bool.and_true, Bool.true_and, Bool.or_true, Bool.and_false, Bool.or_false, Bool.false_and, Bool.and_eq_true, Bool.or_eq_true, Bool.not_eq_true'] at hcl
        simp only [StepsP]
        refine ⟨?_, ?_, ?_, ?_, ?_, ?_, ?_, ?_, ?_, trivial⟩
        · intro h1 h2
          simp [depsOk, Region.binds] at h1 h2
          subst h1
          (repeat (obtain ⟨rfl, h2⟩ := h2))
          (try subst h2)
          (first | (obtain rfl : l2 = false := by grind only) | skip)
          (first | (obtain rfl : l3 = false := by grind only) | skip)
          clear hcl
          simp only [cond_true, cond_false, setT, List.set_cons_succ, List.set_cons_zero, List.getD_cons_succ, List.getD_cons_zero, List.set_cons_succ]
          (first
          | ((with_reducible apply AP.k_any); refine ap_callB 1 [] rfl rfl (fn := 11) rfl (wnew_ac) (by (repeat' (first | exact PasC.nil | apply PasC.nil | apply PasC.cons | apply PasV.leaf rfl | apply PasV.nl | apply PasV.bp rfl | apply PasV.lend rfl rfl rfl | apply PasV.lend rfl rfl (ro_B _) | apply PasV.lend rfl rfl (ro_M _) | apply PasV.lend rfl rfl (ro_E _ _) | apply PasV.lend rfl rfl (ro_I _) | apply PasV.mv rfl | apply PasV.ag | apply PasV.fn | exact PasV.fs | apply PasV.any))) (by (repeat' (first | exact Out.nil | apply Out.cons rfl | exact ClsC.nil | apply ClsC.nl | apply ClsC.leaf rfl | apply ClsC.hd rfl | apply ClsC.fn | apply ClsC.fz rfl (ro_B _) | apply ClsC.fz rfl (ro_M _) | apply ClsC.fz rfl (ro_E _ _) | apply ClsC.fz rfl rfl))) rfl (by (repeat' (first | exact Bk.nil | apply Bk.cons rfl rfl rfl))) (by (repeat' (first | exact RnV.leaf rfl | exact RnC.nil | apply RnC.cons | apply RnV.ag | apply RnV.tu | exact RnV.bp rfl))) rfl ?_)
          | fail "no arm")
          all_goals (try simp only [nm, newS, plc, spl, bldA, bldS, zrow, chunks, ZC.val, Nat.reduceAdd, Nat.reduceSub, BEq.rfl])
          refine AP.nil ?_
          exact ⟨rfl, rfl⟩
        · intro h1 h2
          simp [depsOk, Region.binds] at h1 h2
          subst h1
          (repeat (obtain ⟨rfl, h2⟩ := h2))
          (try subst h2)
          (first | (obtain rfl : l2 = false := by grind only) | skip)
          (first | (obtain rfl : l3 = false := by grind only) | skip)
          clear hcl
          simp only [cond_true, cond_false, setT, List.set_cons_succ, List.set_cons_zero, List.getD_cons_succ, List.getD_cons_zero, List.set_cons_succ]
          (with_reducible apply AP.k_any); first | (refine AP.s1 rfl ?_ ?_; focus ((repeat' (with_reducible apply And.intro)) <;> (first | exact True.intro | exact rfl | omega | (simp; omega) | (simp; done) | assumption))) | refine AP.pure rfl (pq_load1_rp rfl rfl rfl rfl (by (first | (refine ⟨?_, ?_⟩; assumption; rfl) | exact ⟨mapAt (by (first | omega | (simp; omega) | (simp; done) | assumption)), rfl⟩ | exact ⟨rfl, rfl⟩))) ?_ | refine AP.pure rfl (pq_loadN_rp rfl rfl rfl rfl (by (first | (refine ⟨?_, ?_⟩; assumption; rfl) | exact ⟨mapAt (by (first | omega | (simp; omega) | (simp; done) | assumption)), rfl⟩ | exact ⟨rfl, rfl⟩))) ?_ | refine AP.pure rfl (pq_load1_ep rfl rfl rfl rfl rfl (by (first | (refine ⟨?_, ?_⟩; assumption; rfl) | exact ⟨mapAt (by (first | omega | (simp; omega) | (simp; done) | assumption)), rfl⟩ | exact ⟨rfl, rfl⟩))) ?_ | refine AP.pure rfl (pq_loadN_ep rfl rfl rfl rfl rfl (by (first | (refine ⟨?_, ?_⟩; assumption; rfl) | exact ⟨mapAt (by (first | omega | (simp; omega) | (simp; done) | assumption)), rfl⟩ | exact ⟨rfl, rfl⟩))) ?_ | fail "no step"
          all_goals (try simp only [nm, newS, plc, spl, bldA, bldS, zrow, chunks, ZC.val, Nat.reduceAdd, Nat.reduceSub, BEq.rfl])
          refine AP.nil ?_
          exact ⟨rfl, rfl⟩
        · intro h1 h2
          simp [depsOk, Region.binds] at h1 h2
          subst h1
          (repeat (obtain ⟨rfl, h2⟩ := h2))
          (try subst h2)
          (first | (obtain rfl : l0 = true := by grind only) | skip)
          (first | (obtain rfl : l3 = false := by grind only) | skip)
          clear hcl
          simp only [cond_true, cond_false, setT, List.set_cons_succ, List.set_cons_zero, List.getD_cons_succ, List.getD_cons_zero, List.set_cons_succ]
          (first
          | ((with_reducible apply AP.k_any); refine ap_callB 0 [(3, 3)] rfl rfl (fn := 13) rfl (h2) (by (repeat' (first | exact PasC.nil | apply PasC.nil | apply PasC.cons | apply PasV.leaf rfl | apply PasV.nl | apply PasV.bp rfl | apply PasV.lend rfl rfl rfl | apply PasV.lend rfl rfl (ro_B _) | apply PasV.lend rfl rfl (ro_M _) | apply PasV.lend rfl rfl (ro_E _ _) | apply PasV.lend rfl rfl (ro_I _) | apply PasV.mv rfl | apply PasV.ag | apply PasV.fn | exact PasV.fs | apply PasV.any))) (by (repeat' (first | exact Out.nil | apply Out.cons rfl | exact ClsC.nil | apply ClsC.nl | apply ClsC.leaf rfl | apply ClsC.hd rfl | apply ClsC.fn | apply ClsC.fz rfl (ro_B _) | apply ClsC.fz rfl (ro_M _) | apply ClsC.fz rfl (ro_E _ _) | apply ClsC.fz rfl rfl))) rfl (by (repeat' (first | exact Bk.nil | apply Bk.cons rfl rfl rfl))) (by (repeat' (first | exact RnV.leaf rfl | exact RnC.nil | apply RnC.cons | apply RnV.ag | apply RnV.tu | exact RnV.bp rfl))) rfl ?_)
          | fail "no arm")
          all_goals (try simp only [nm, newS, plc, spl, bldA, bldS, zrow, chunks, ZC.val, Nat.reduceAdd, Nat.reduceSub, BEq.rfl])
          refine AP.nil ?_
          exact ⟨rfl, rfl⟩
        · intro h1 h2
          simp [depsOk, Region.binds] at h1 h2
          subst h1
          (repeat (obtain ⟨rfl, h2⟩ := h2))
          (try subst h2)
          (first | (obtain rfl : l0 = true := by grind only) | skip)
          (first | (obtain rfl : l2 = true := by grind only) | skip)
          clear hcl
          simp only [cond_true, cond_false, setT, List.set_cons_succ, List.set_cons_zero, List.getD_cons_succ, List.getD_cons_zero, List.set_cons_succ]
          (first
          | ((with_reducible apply AP.k_any); refine ap_callB 0 [(3, 3)] rfl rfl (fn := 12) rfl (d2) (by (repeat' (first | exact PasC.nil | apply PasC.nil | apply PasC.cons | apply PasV.leaf rfl | apply PasV.nl | apply PasV.bp rfl | apply PasV.lend rfl rfl rfl | apply PasV.lend rfl rfl (ro_B _) | apply PasV.lend rfl rfl (ro_M _) | apply PasV.lend rfl rfl (ro_E _ _) | apply PasV.lend rfl rfl (ro_I _) | apply PasV.mv rfl | apply PasV.ag | apply PasV.fn | exact PasV.fs | apply PasV.any))) (by (repeat' (first | exact Out.nil | apply Out.cons rfl | exact ClsC.nil | apply ClsC.nl | apply ClsC.leaf rfl | apply ClsC.hd rfl | apply ClsC.fn | apply ClsC.fz rfl (ro_B _) | apply ClsC.fz rfl (ro_M _) | apply ClsC.fz rfl (ro_E _ _) | apply ClsC.fz rfl rfl))) rfl (by (repeat' (first | exact Bk.nil | apply Bk.cons rfl rfl rfl))) (by (repeat' (first | exact RnV.leaf rfl | exact RnC.nil | apply RnC.cons | apply RnV.ag | apply RnV.tu | exact RnV.bp rfl))) rfl ?_)
          | fail "no arm")
          all_goals (try simp only [nm, newS, plc, spl, bldA, bldS, zrow, chunks, ZC.val, Nat.reduceAdd, Nat.reduceSub, BEq.rfl])
          refine AP.nil ?_
          exact ⟨rfl, rfl⟩
        · intro h1 h2
          simp [depsOk, Region.binds] at h1 h2
          subst h1
          (repeat (obtain ⟨rfl, h2⟩ := h2))
          (try subst h2)
          clear hcl
          simp only [cond_true, cond_false, setT, List.set_cons_succ, List.set_cons_zero, List.getD_cons_succ, List.getD_cons_zero, List.set_cons_succ]
          (with_reducible apply AP.k_any); first | (refine AP.s1 rfl ?_ ?_; focus ((repeat' (with_reducible apply And.intro)) <;> (first | exact True.intro | exact rfl | omega | (simp; omega) | (simp; done) | assumption))) | fail "no step"
          all_goals (try simp only [nm, newS, plc, spl, bldA, bldS, zrow, chunks, ZC.val, Nat.reduceAdd, Nat.reduceSub, BEq.rfl])
          refine AP.nil ?_
          exact ⟨rfl, rfl⟩
        · intro h1 h2
          simp [depsOk, Region.binds] at h1 h2
          subst h1
          (repeat (obtain ⟨rfl, h2⟩ := h2))
          (try subst h2)
          clear hcl
          simp only [cond_true, cond_false, setT, List.set_cons_succ, List.set_cons_zero, List.getD_cons_succ, List.getD_cons_zero, List.set_cons_succ]
          (with_reducible apply AP.k_any); first | (refine AP.s1 rfl ?_ ?_; focus ((repeat' (with_reducible apply And.intro)) <;> (first | exact True.intro | exact rfl | omega | (simp; omega) | (simp; done) | assumption))) | fail "no step"
          all_goals (try simp only [nm, newS, plc, spl, bldA, bldS, zrow, chunks, ZC.val, Nat.reduceAdd, Nat.reduceSub, BEq.rfl])
          refine AP.nil ?_
          exact ⟨rfl, rfl⟩
        · intro h1 h2
          simp [depsOk, Region.binds] at h1 h2
          subst h1
          (repeat (obtain ⟨rfl, h2⟩ := h2))
          (try subst h2)
          clear hcl
          simp only [cond_true, cond_false, setT, List.set_cons_succ, List.set_cons_zero, List.getD_cons_succ, List.getD_cons_zero, List.set_cons_succ]
          (with_reducible apply AP.k_any); first | (refine AP.s1 rfl ?_ ?_; focus ((repeat' (with_reducible apply And.intro)) <;> (first | exact True.intro | exact rfl | omega | (simp; omega) | (simp; done) | assumption))) | fail "no step"
          all_goals (try simp only [nm, newS, plc, spl, bldA, bldS, zrow, chunks, ZC.val, Nat.reduceAdd, Nat.reduceSub, BEq.rfl])
          refine AP.nil ?_
          exact ⟨rfl, rfl⟩
        · intro h1 h2
          simp [depsOk, Region.binds] at h1 h2
          subst h1
          (repeat (obtain ⟨rfl, h2⟩ := h2))
          (try subst h2)
          clear hcl
          simp only [cond_true, cond_false, setT, List.set_cons_succ, List.set_cons_zero, List.getD_cons_succ, List.getD_cons_zero, List.set_cons_succ]
          (with_reducible apply AP.k_any); first | (refine AP.s1 rfl ?_ ?_; focus ((repeat' (with_reducible apply And.intro)) <;> (first | exact True.intro | exact rfl | omega | (simp; omega) | (simp; done) | assumption))) | fail "no step"
          all_goals (try simp only [nm, newS, plc, spl, bldA, bldS, zrow, chunks, ZC.val, Nat.reduceAdd, Nat.reduceSub, BEq.rfl])
          refine AP.nil ?_
          exact ⟨rfl, rfl⟩
        · intro h1 h2
          simp [depsOk, Region.binds] at h1 h2
          subst h1
          (repeat (obtain ⟨rfl, h2⟩ := h2))
          (try subst h2)
          clear hcl
          simp only [cond_true, cond_false, setT, List.set_cons_succ, List.set_cons_zero, List.getD_cons_succ, List.getD_cons_zero, List.set_cons_succ]
          (with_reducible apply AP.k_any); first | (refine AP.s1 rfl ?_ ?_; focus ((repeat' (with_reducible apply And.intro)) <;> (first | exact True.intro | exact rfl | omega | (simp; omega) | (simp; done) | assumption))) | fail "no step"
          all_goals (try simp only [nm, newS, plc, spl, bldA, bldS, zrow, chunks, ZC.val, Nat.reduceAdd, Nat.reduceSub, BEq.rfl])
          refine AP.nil ?_
          exact ⟨rfl, rfl⟩
    repeat' (first
      | ((first
      | ((with_reducible apply AP.k_any); first
               | (refine AP.s1 rfl ?_ ?_; focus ((repeat' (with_reducible apply And.intro)) <;> (first | exact True.intro | exact rfl | omega | (simp; omega) | (simp; done) | assumption)))
               | (refine AP.s2 rfl ?_ ?_; focus ((repeat' (with_reducible apply And.intro)) <;> (first | exact True.intro | exact rfl | omega | (simp; omega) | (simp; done) | assumption)))
               | (refine AP.gyes rfl rfl rfl ?_; dsimp only) | refine AP.gno rfl rfl rfl rfl ?_ | refine AP.gund rfl rfl rfl ?_ | (refine AP.gsplit rfl rfl rfl (fun hg => ?_) (fun hg => ?_))
               | refine ap_box rfl rfl rfl rfl ?_
        )
      
      )
        <;> (try simp only [nm, newS, plc, spl, bldA, bldS, zrow, chunks, ZC.val, Nat.reduceAdd, Nat.reduceSub, BEq.rfl]))
      | ((with_reducible apply AP.k_nil); first
          | (refine AP.nil (hQ' _ ?_); clear hQ' Q')
          | refine AP.nil ?_)
      | ((with_reducible apply CP.k_reg); refine cp_regG fun Q' hQ' => ?_)
        | (with_reducible apply CP.k_reg1; refine cp_region ?_)
        | ((with_reducible apply CP.k_cond); first
            | refine cp_condT rfl ?_
            | refine cp_condF rfl ?_
            | refine cp_cond rfl (fun hc => ?_) (fun hc => ?_))
        | (with_reducible first | refine cp_block ?_ | refine cp_exit ?_ | refine cp_ret ?_ | refine cp_skip ?_ | refine cp_seq ?_ | refine inB_hit ?_ | refine inB_n ?_ | refine inB_r ?_ | refine thenQ_n ?_ | refine thenQ_r ?_ | refine thenQ_e ?_ | refine cpn_succ ?_)
        | (refine inB_miss rfl ?_))
    refine cp_drawI (fun zs zb => ⟨setT zs.t [(33, cond (zb.getD 0 false) (I 0) (.tu [])), (34, cond (zb.getD 1 false) (B true) (.tu [])), (35, cond (zb.getD 2 false) (B true) (.tu [])), (36, cond (zb.getD 3 false) (I 0) (.tu [])), (37, cond (zb.getD 4 false) (B true) (.tu [])), (38, cond (zb.getD 5 false) (B true) (.tu [])), (39, cond (zb.getD 6 false) (B true) (.tu [])), (40, cond (zb.getD 7 false) (bs none (entryF e)) (.tu [])), (41, cond (zb.getD 8 false) (.ag (eE none e)) (.tu [])), (42, cond (zb.getD 9 false) (bs none (entryF e)) (.tu [])), (43, cond (zb.getD 10 false) (B true) (.tu [])), (44, cond (zb.getD 11 false) (B true) (.tu [])), (45, cond (zb.getD 12 false) (B true) (.tu [])), (46, cond (zb.getD 13 false) (bs none (configF c)) (.tu [])), (47, cond (zb.getD 14 false) (.ag (eC none c)) (.tu [])), (48, cond (zb.getD 15 false) (bs none (configF c)) (.tu [])), (49, cond (zb.getD 16 false) (B true) (.tu [])), (50, cond (zb.getD 17 false) (B true) (.tu [])), (51, cond (zb.getD 18 false) (B true) (.tu [])), (52, cond (zb.getD 19 false) (.ag (eE none e)) (.tu [])), (53, cond (zb.getD 20 false) (B x) (.tu [])), (54, cond (zb.getD 21 false) (.ag (eE none e)) (.tu [])), (55, cond (zb.getD 22 false) (B x) (.tu [])), (56, cond (zb.getD 23 false) (B true) (.tu [])), (57, cond (zb.getD 24 false) (B true) (.tu [])), (58, cond (zb.getD 25 false) (B true) (.tu [])), (59, cond (zb.getD 26 false) (.ag (eC none c)) (.tu [])), (60, cond (zb.getD 27 false) (B y) (.tu [])), (61, cond (zb.getD 28 false) (.ag (eC none c)) (.tu [])), (62, cond (zb.getD 29 false) (B y) (.tu [])), (63, cond (zb.getD 30 false) (B true) (.tu [])), (64, cond (zb.getD 31 false) (B true) (.tu [])), (4, cond (zb.getD 32 false) (B true) (B false))], zs.b⟩) (by kernel_rfl) (by kernel_rfl) (by kernel_rfl) ?_ ?_
    rotate_left
    simp only [cond_true, cond_false, setT, List.set_cons_succ, List.set_cons_zero, List.getD_cons_succ, List.getD_cons_zero, List.set_cons_succ, List.length_cons, List.length_nil, List.replicate_succ, List.replicate_zero, Nat.reduceAdd]
    rotate_left
    · intro b hb' hcl
      obtain ⟨l0, b0, rfl, hb0⟩ := len_cons hb'
      obtain ⟨l1, b1, rfl, hb1⟩ := len_cons hb0
      obtain ⟨l2, b2, rfl, hb2⟩ := len_cons hb1
      obtain ⟨l3, b3, rfl, hb3⟩ := len_cons hb2
      obtain ⟨l4, b4, rfl, hb4⟩ := len_cons hb3
      obtain ⟨l5, b5, rfl, hb5⟩ := len_cons hb4
      obtain ⟨l6, b6, rfl, hb6⟩ := len_cons hb5
      obtain ⟨l7, b7, rfl, hb7⟩ := len_cons hb6
      obtain ⟨l8, b8, rfl, hb8⟩ := len_cons hb7
      obtain ⟨l9, b9, rfl, hb9⟩ := len_cons hb8
      obtain ⟨l10, b10, rfl, hb10⟩ := len_cons hb9
      obtain ⟨l11, b11, rfl, hb11⟩ := len_cons hb10
      obtain ⟨l12, b12, rfl, hb12⟩ := len_cons hb11
      obtain ⟨l13, b13, rfl, hb13⟩ := len_cons hb12
      obtain ⟨l14, b14, rfl, hb14⟩ := len_cons hb13
      obtain ⟨l15, b15, rfl, hb15⟩ := len_cons hb14
      obtain ⟨l16, b16, rfl, hb16⟩ := len_cons hb15
      obtain ⟨l17, b17, rfl, hb17⟩ := len_cons hb16
      obtain ⟨l18, b18, rfl, hb18⟩ := len_cons hb17
      obtain ⟨l19, b19, rfl, hb19⟩ := len_cons hb18
      obtain ⟨l20, b20, rfl, hb20⟩ := len_cons hb19
      obtain ⟨l21, b21, rfl, hb21⟩ := len_cons hb20
      obtain ⟨l22, b22, rfl, hb22⟩ := len_cons hb21
      obtain ⟨l23, b23, rfl, hb23⟩ := len_cons hb22
      obtain ⟨l24, b24, rfl, hb24⟩ := len_cons hb23
      obtain ⟨l25, b25, rfl, hb25⟩ := len_cons hb24
      obtain ⟨l26, b26, rfl, hb26⟩ := len_cons hb25
      obtain ⟨l27, b27, rfl, hb27⟩ := len_cons hb26
      obtain ⟨l28, b28, rfl, hb28⟩ := len_cons hb27
      obtain ⟨l29, b29, rfl, hb29⟩ := len_cons hb28
      obtain ⟨l30, b30, rfl, hb30⟩ := len_cons hb29
      obtain ⟨l31, b31, rfl, hb31⟩ := len_cons hb30
      obtain ⟨l32, b32, rfl, hb32⟩ := len_cons hb31
      obtain rfl := List.length_eq_zero_iff.1 hb32
      clear hb' hb0 hb1 hb2 hb3 hb4 hb5 hb6 hb7 hb8 hb9 hb10 hb11 hb12 hb13 hb14 hb15 hb16 hb17 hb18 hb19 hb20 hb21 hb22 hb23 hb24 hb25 hb26 hb27 hb28 hb29 hb30 hb31 hb32
      · simp only [closedB, depsOk, Region.binds, List.toList_toArray, List.all_cons, List.all_nil, List.getD_cons_succ, List.getD_cons_zero, Bool.not_true, Bool.not_false, Bool.true_or, Bool.false_or, Bool.and_true, Bool.true_and, Bool.or_true, Bool.and_false, Bool.or_false, Bool.false_and, Bool.and_eq_true, Bool.or_eq_true, Bool.not_eq_true'] at hcl
        simp only [StepsP]
        refine ⟨?_, ?_, ?_, ?_, ?_, ?_, ?_, ?_, ?_, ?_, ?_, ?_, ?_, ?_, ?_, ?_, ?_, ?_, ?_, ?_, ?_, ?_, ?_, ?_, ?_, ?_, ?_, ?_, ?_, ?_, ?_, ?_, ?_, trivial⟩
        · intro h1 h2
          simp [depsOk, Region.binds] at h1 h2
          subst h1
          (repeat (obtain ⟨rfl, h2⟩ := h2))
          (try subst h2)
          clear hcl
          simp only [cond_true, cond_false, setT, List.set_cons_succ, List.set_cons_zero, List.getD_cons_succ, List.getD_cons_zero, List.set_cons_succ]
          (with_reducible apply AP.k_any); first | (refine AP.s1 rfl ?_ ?_; focus ((repeat' (with_reducible apply And.intro)) <;> (first | exact True.intro | exact rfl | omega | (simp; omega) | (simp; done) | assumption))) | fail "no step"
          all_goals (try simp only [nm, newS, plc, spl, bldA, bldS, zrow, chunks, ZC.val, Nat.reduceAdd, Nat.reduceSub, BEq.rfl])
          refine AP.nil ?_
          exact ⟨rfl, rfl⟩
        · intro h1 h2
          simp [depsOk, Region.binds] at h1 h2
          subst h1
          (repeat (obtain ⟨rfl, h2⟩ := h2))
          (try subst h2)
          clear hcl
          simp only [cond_true, cond_false, setT, List.set_cons_succ, List.set_cons_zero, List.getD_cons_succ, List.getD_cons_zero, List.set_cons_succ]
          (with_reducible apply AP.k_any); first | (refine AP.s1 rfl ?_ ?_; focus ((repeat' (with_reducible apply And.intro)) <;> (first | exact True.intro | exact rfl | omega | (simp; omega) | (simp; done) | assumption))) | fail "no step"
          all_goals (try simp only [nm, newS, plc, spl, bldA, bldS, zrow, chunks, ZC.val, Nat.reduceAdd, Nat.reduceSub, BEq.rfl])
          refine AP.nil ?_
          exact ⟨rfl, rfl⟩
        · intro h1 h2
          simp [depsOk, Region.binds] at h1 h2
          subst h1
          (repeat (obtain ⟨rfl, h2⟩ := h2))
          (try subst h2)
          clear hcl
          simp only [cond_true, cond_false, setT, List.set_cons_succ, List.set_cons_zero, List.getD_cons_succ, List.getD_cons_zero, List.set_cons_succ]
          (with_reducible apply AP.k_any); first | (refine AP.s1 rfl ?_ ?_; focus ((repeat' (with_reducible apply And.intro)) <;> (first | exact True.intro | exact rfl | omega | (simp; omega) | (simp; done) | assumption))) | fail "no step"
          all_goals (try simp only [nm, newS, plc, spl, bldA, bldS, zrow, chunks, ZC.val, Nat.reduceAdd, Nat.reduceSub, BEq.rfl])
          refine AP.nil ?_
          exact ⟨rfl, rfl⟩
        · intro h1 h2
          simp [depsOk, Region.binds] at h1 h2
          subst h1
          (repeat (obtain ⟨rfl, h2⟩ := h2))
          (try subst h2)
          clear hcl
          simp only [cond_true, cond_false, setT, List.set_cons_succ, List.set_cons_zero, List.getD_cons_succ, List.getD_cons_zero, List.set_cons_succ]
          (with_reducible apply AP.k_any); refine AP.gyes rfl rfl rfl ?_; dsimp only
          (with_reducible apply AP.k_any); first | (refine AP.s1 rfl ?_ ?_; focus ((repeat' (with_reducible apply And.intro)) <;> (first | exact True.intro | exact rfl | omega | (simp; omega) | (simp; done) | assumption))) | fail "no step"
          all_goals (try simp only [nm, newS, plc, spl, bldA, bldS, zrow, chunks, ZC.val, Nat.reduceAdd, Nat.reduceSub, BEq.rfl])
          refine AP.nil ?_
          exact ⟨rfl, rfl⟩
        · intro h1 h2
          simp [depsOk, Region.binds] at h1 h2
          subst h1
          (repeat (obtain ⟨rfl, h2⟩ := h2))
          (try subst h2)
          clear hcl
          simp only [cond_true, cond_false, setT, List.set_cons_succ, List.set_cons_zero, List.getD_cons_succ, List.getD_cons_zero, List.set_cons_succ]
          (with_reducible apply AP.k_any); refine AP.gyes rfl rfl rfl ?_; dsimp only
          (with_reducible apply AP.k_any); first | (refine AP.s1 rfl ?_ ?_; focus ((repeat' (with_reducible apply And.intro)) <;> (first | exact True.intro | exact rfl | omega | (simp; omega) | (simp; done) | assumption))) | fail "no step"
          all_goals (try simp only [nm, newS, plc, spl, bldA, bldS, zrow, chunks, ZC.val, Nat.reduceAdd, Nat.reduceSub, BEq.rfl])
          refine AP.nil ?_
          exact ⟨rfl, rfl⟩
        · intro h1 h2
          simp [depsOk, Region.binds] at h1 h2
          subst h1
          (repeat (obtain ⟨rfl, h2⟩ := h2))
          (try subst h2)
          clear hcl
          simp only [cond_true, cond_false, setT, List.set_cons_succ, List.set_cons_zero, List.getD_cons_succ, List.getD_cons_zero, List.set_cons_succ]
          (with_reducible apply AP.k_any); first | (refine AP.s1 rfl ?_ ?_; focus ((repeat' (with_reducible apply And.intro)) <;> (first | exact True.intro | exact rfl | omega | (simp; omega) | (simp; done) | assumption))) | fail "no step"
          all_goals (try simp only [nm, newS, plc, spl, bldA, bldS, zrow, chunks, ZC.val, Nat.reduceAdd, Nat.reduceSub, BEq.rfl])
          refine AP.nil ?_
          exact ⟨rfl, rfl⟩
        · intro h1 h2
          simp [depsOk, Region.binds] at h1 h2
          subst h1
          (repeat (obtain ⟨rfl, h2⟩ := h2))
          (try subst h2)
          clear hcl
          simp only [cond_true, cond_false, setT, List.set_cons_succ, List.set_cons_zero, List.getD_cons_succ, List.getD_cons_zero, List.set_cons_succ]
          (with_reducible apply AP.k_any); first | (refine AP.s1 rfl ?_ ?_; focus ((repeat' (with_reducible apply And.intro)) <;> (first | exact True.intro | exact rfl | omega | (simp; omega) | (simp; done) | assumption))) | fail "no step"
          all_goals (try simp only [nm, newS, plc, spl, bldA, bldS, zrow, chunks, ZC.val, Nat.reduceAdd, Nat.reduceSub, BEq.rfl])
          refine AP.nil ?_
          exact ⟨rfl, rfl⟩
        · intro h1 h2
          simp [depsOk, Region.binds] at h1 h2
          subst h1
          (repeat (obtain ⟨rfl, h2⟩ := h2))
          (try subst h2)
          clear hcl
          simp only [cond_true, cond_false, setT, List.set_cons_succ, List.set_cons_zero, List.getD_cons_succ, List.getD_cons_zero, List.set_cons_succ]
          (with_reducible apply AP.k_any); refine AP.gyes rfl rfl rfl ?_; dsimp only
          (with_reducible apply AP.k_any); first | (refine AP.s1 rfl ?_ ?_; focus ((repeat' (with_reducible apply And.intro)) <;> (first | exact True.intro | exact rfl | omega | (simp; omega) | (simp; done) | assumption))) | fail "no step"
          all_goals (try simp only [nm, newS, plc, spl, bldA, bldS, zrow, chunks, ZC.val, Nat.reduceAdd, Nat.reduceSub, BEq.rfl])
          refine AP.nil ?_
          exact ⟨rfl, rfl⟩
        · intro h1 h2
          simp [depsOk, Region.binds] at h1 h2
          subst h1
          (repeat (obtain ⟨rfl, h2⟩ := h2))
          (try subst h2)
          clear hcl
          simp only [cond_true, cond_false, setT, List.set_cons_succ, List.set_cons_zero, List.getD_cons_succ, List.getD_cons_zero, List.set_cons_succ]
          (with_reducible apply AP.k_any); refine AP.gyes rfl rfl rfl ?_; dsimp only
          (with_reducible apply AP.k_any); first | (refine AP.s1 rfl ?_ ?_; focus ((repeat' (with_reducible apply And.intro)) <;> (first | exact True.intro | exact rfl | omega | (simp; omega) | (simp; done) | assumption))) | refine AP.pure rfl (pq_load1_rp rfl rfl rfl rfl (by (first | (refine ⟨?_, ?_⟩; assumption; rfl) | exact ⟨mapAt (by (first | omega | (simp; omega) | (simp; done) | assumption)), rfl⟩ | exact ⟨rfl, rfl⟩))) ?_ | refine AP.pure rfl (pq_loadN_rp rfl rfl rfl rfl (by (first | (refine ⟨?_, ?_⟩; assumption; rfl) | exact ⟨mapAt (by (first | omega | (simp; omega) | (simp; done) | assumption)), rfl⟩ | exact ⟨rfl, rfl⟩))) ?_ | refine AP.pure rfl (pq_load1_ep rfl rfl rfl rfl rfl (by (first | (refine ⟨?_, ?_⟩; assumption; rfl) | exact ⟨mapAt (by (first | omega | (simp; omega) | (simp; done) | assumption)), rfl⟩ | exact ⟨rfl, rfl⟩))) ?_ | refine AP.pure rfl (pq_loadN_ep rfl rfl rfl rfl rfl (by (first | (refine ⟨?_, ?_⟩; assumption; rfl) | exact ⟨mapAt (by (first | omega | (simp; omega) | (simp; done) | assumption)), rfl⟩ | exact ⟨rfl, rfl⟩))) ?_ | fail "no step"
          all_goals (try simp only [nm, newS, plc, spl, bldA, bldS, zrow, chunks, ZC.val, Nat.reduceAdd, Nat.reduceSub, BEq.rfl])
          refine AP.nil ?_
          exact ⟨rfl, rfl⟩
        · intro h1 h2
          simp [depsOk, Region.binds] at h1 h2
          subst h1
          (repeat (obtain ⟨rfl, h2⟩ := h2))
          (try subst h2)
          clear hcl
          simp only [cond_true, cond_false, setT, List.set_cons_succ, List.set_cons_zero, List.getD_cons_succ, List.getD_cons_zero, List.set_cons_succ]
          (with_reducible apply AP.k_any); refine AP.gyes rfl rfl rfl ?_; dsimp only
          (first
          | ((with_reducible apply AP.k_any); refine ap_callX rfl rfl (fn := 15) rfl (f1) (by (repeat' (first | exact PasC.nil | apply PasC.nil | apply PasC.cons | apply PasV.leaf rfl | apply PasV.nl | apply PasV.bp rfl | apply PasV.lend rfl rfl rfl | apply PasV.lend rfl rfl (ro_B _) | apply PasV.lend rfl rfl (ro_M _) | apply PasV.lend rfl rfl (ro_E _ _) | apply PasV.lend rfl rfl (ro_I _) | apply PasV.mv rfl | apply PasV.ag | apply PasV.fn | exact PasV.fs | apply PasV.any))) rfl rfl ?_)
          | fail "no arm")
          all_goals (try simp only [nm, newS, plc, spl, bldA, bldS, zrow, chunks, ZC.val, Nat.reduceAdd, Nat.reduceSub, BEq.rfl])
          refine AP.nil ?_
          exact ⟨rfl, rfl⟩
        · intro h1 h2
          simp [depsOk, Region.binds] at h1 h2
          subst h1
          (repeat (obtain ⟨rfl, h2⟩ := h2))
          (try subst h2)
          clear hcl
          simp only [cond_true, cond_false, setT, List.set_cons_succ, List.set_cons_zero, List.getD_cons_succ, List.getD_cons_zero, List.set_cons_succ]
          (with_reducible apply AP.k_any); refine AP.gyes rfl rfl rfl ?_; dsimp only
          (first
          | ((with_reducible apply AP.k_any); refine ap_callX rfl rfl (fn := 14) rfl (s1) (by (repeat' (first | exact PasC.nil | apply PasC.nil | apply PasC.cons | apply PasV.leaf rfl | apply PasV.nl | apply PasV.bp rfl | apply PasV.lend rfl rfl rfl | apply PasV.lend rfl rfl (ro_B _) | apply PasV.lend rfl rfl (ro_M _) | apply PasV.lend rfl rfl (ro_E _ _) | apply PasV.lend rfl rfl (ro_I _) | apply PasV.mv rfl | apply PasV.ag | apply PasV.fn | exact PasV.fs | apply PasV.any))) rfl rfl ?_)
          | ((with_reducible apply AP.k_any); refine ap_callX rfl rfl (fn := 14) rfl (s2) (by (repeat' (first | exact PasC.nil | apply PasC.nil | apply PasC.cons | apply PasV.leaf rfl | apply PasV.nl | apply PasV.bp rfl | apply PasV.lend rfl rfl rfl | apply PasV.lend rfl rfl (ro_B _) | apply PasV.lend rfl rfl (ro_M _) | apply PasV.lend rfl rfl (ro_E _ _) | apply PasV.lend rfl rfl (ro_I _) | apply PasV.mv rfl | apply PasV.ag | apply PasV.fn | exact PasV.fs | apply PasV.any))) rfl rfl ?_)
          | fail "no arm")
          all_goals (try simp only [nm, newS, plc, spl, bldA, bldS, zrow, chunks, ZC.val, Nat.reduceAdd, Nat.reduceSub, BEq.rfl])
          refine AP.nil ?_
          exact ⟨rfl, rfl⟩
        · intro h1 h2
          simp [depsOk, Region.binds] at h1 h2
          subst h1
          (repeat (obtain ⟨rfl, h2⟩ := h2))
          (try subst h2)
          clear hcl
          simp only [cond_true, cond_false, setT, List.set_cons_succ, List.set_cons_zero, List.getD_cons_succ, List.getD_cons_zero, List.set_cons_succ]
          (with_reducible apply AP.k_any); first | (refine AP.s1 rfl ?_ ?_; focus ((repeat' (with_reducible apply And.intro)) <;> (first | exact True.intro | exact rfl | omega | (simp; omega) | (simp; done) | assumption))) | fail "no step"
          all_goals (try simp only [nm, newS, plc, spl, bldA, bldS, zrow, chunks, ZC.val, Nat.reduceAdd, Nat.reduceSub, BEq.rfl])
          refine AP.nil ?_
          exact ⟨rfl, rfl⟩
        · intro h1 h2
          simp [depsOk, Region.binds] at h1 h2
          subst h1
          (repeat (obtain ⟨rfl, h2⟩ := h2))
          (try subst h2)
          clear hcl
          simp only [cond_true, cond_false, setT, List.set_cons_succ, List.set_cons_zero, List.getD_cons_succ, List.getD_cons_zero, List.set_cons_succ]
          (with_reducible apply AP.k_any); first | (refine AP.s1 rfl ?_ ?_; focus ((repeat' (with_reducible apply And.intro)) <;> (first | exact True.intro | exact rfl | omega | (simp; omega) | (simp; done) | assumption))) | fail "no step"
          all_goals (try simp only [nm, newS, plc, spl, bldA, bldS, zrow, chunks, ZC.val, Nat.reduceAdd, Nat.reduceSub, BEq.rfl])
          refine AP.nil ?_
          exact ⟨rfl, rfl⟩
        · intro h1 h2
          simp [depsOk, Region.binds] at h1 h2
          subst h1
          (repeat (obtain ⟨rfl, h2⟩ := h2))
          (try subst h2)
          clear hcl
          simp only [cond_true, cond_false, setT, List.set_cons_succ, List.set_cons_zero, List.getD_cons_succ, List.getD_cons_zero, List.set_cons_succ]
          (with_reducible apply AP.k_any); refine AP.gyes rfl rfl rfl ?_; dsimp only
          (with_reducible apply AP.k_any); first | (refine AP.s1 rfl ?_ ?_; focus ((repeat' (with_reducible apply And.intro)) <;> (first | exact True.intro | exact rfl | omega | (simp; omega) | (simp; done) | assumption))) | fail "no step"
          all_goals (try simp only [nm, newS, plc, spl, bldA, bldS, zrow, chunks, ZC.val, Nat.reduceAdd, Nat.reduceSub, BEq.rfl])
          refine AP.nil ?_
          exact ⟨rfl, rfl⟩
        · intro h1 h2
          simp [depsOk, Region.binds] at h1 h2
          subst h1
          (repeat (obtain ⟨rfl, h2⟩ := h2))
          (try subst h2)
          clear hcl
          simp only [cond_true, cond_false, setT, List.set_cons_succ, List.set_cons_zero, List.getD_cons_succ, List.getD_cons_zero, List.set_cons_succ]
          (with_reducible apply AP.k_any); refine AP.gyes rfl rfl rfl ?_; dsimp only
          (with_reducible apply AP.k_any); first | (refine AP.s1 rfl ?_ ?_; focus ((repeat' (with_reducible apply And.intro)) <;> (first | exact True.intro | exact rfl | omega | (simp; omega) | (simp; done) | assumption))) | refine AP.pure rfl (pq_load1_rp rfl rfl rfl rfl (by (first | (refine ⟨?_, ?_⟩; assumption; rfl) | exact ⟨mapAt (by (first | omega | (simp; omega) | (simp; done) | assumption)), rfl⟩ | exact ⟨rfl, rfl⟩))) ?_ | refine AP.pure rfl (pq_loadN_rp rfl rfl rfl rfl (by (first | (refine ⟨?_, ?_⟩; assumption; rfl) | exact ⟨mapAt (by (first | omega | (simp; omega) | (simp; done) | assumption)), rfl⟩ | exact ⟨rfl, rfl⟩))) ?_ | refine AP.pure rfl (pq_load1_ep rfl rfl rfl rfl rfl (by (first | (refine ⟨?_, ?_⟩; assumption; rfl) | exact ⟨mapAt (by (first | omega | (simp; omega) | (simp; done) | assumption)), rfl⟩ | exact ⟨rfl, rfl⟩))) ?_ | refine AP.pure rfl (pq_loadN_ep rfl rfl rfl rfl rfl (by (first | (refine ⟨?_, ?_⟩; assumption; rfl) | exact ⟨mapAt (by (first | omega | (simp; omega) | (simp; done) | assumption)), rfl⟩ | exact ⟨rfl, rfl⟩))) ?_ | fail "no step"
          all_goals (try simp only [nm, newS, plc, spl, bldA, bldS, zrow, chunks, ZC.val, Nat.reduceAdd, Nat.reduceSub, BEq.rfl])
          refine AP.nil ?_
          exact ⟨rfl, rfl⟩
        · intro h1 h2
          simp [depsOk, Region.binds] at h1 h2
          subst h1
          (repeat (obtain ⟨rfl, h2⟩ := h2))
          (try subst h2)
          clear hcl
          simp only [cond_true, cond_false, setT, List.set_cons_succ, List.set_cons_zero, List.getD_cons_succ, List.getD_cons_zero, List.set_cons_succ]
          (with_reducible apply AP.k_any); refine AP.gyes rfl rfl rfl ?_; dsimp only
          (first
          | ((with_reducible apply AP.k_any); refine ap_callX rfl rfl (fn := 16) rfl (f2) (by (repeat' (first | exact PasC.nil | apply PasC.nil | apply PasC.cons | apply PasV.leaf rfl | apply PasV.nl | apply PasV.bp rfl | apply PasV.lend rfl rfl rfl | apply PasV.lend rfl rfl (ro_B _) | apply PasV.lend rfl rfl (ro_M _) | apply PasV.lend rfl rfl (ro_E _ _) | apply PasV.lend rfl rfl (ro_I _) | apply PasV.mv rfl | apply PasV.ag | apply PasV.fn | exact PasV.fs | apply PasV.any))) rfl rfl ?_)
          | fail "no arm")
          all_goals (try simp only [nm, newS, plc, spl, bldA, bldS, zrow, chunks, ZC.val, Nat.reduceAdd, Nat.reduceSub, BEq.rfl])
          refine AP.nil ?_
          exact ⟨rfl, rfl⟩
        · intro h1 h2
          simp [depsOk, Region.binds] at h1 h2
          subst h1
          (repeat (obtain ⟨rfl, h2⟩ := h2))
          (try subst h2)
          clear hcl
          simp only [cond_true, cond_false, setT, List.set_cons_succ, List.set_cons_zero, List.getD_cons_succ, List.getD_cons_zero, List.set_cons_succ]
          (with_reducible apply AP.k_any); refine AP.gyes rfl rfl rfl ?_; dsimp only
          (first
          | ((with_reducible apply AP.k_any); refine ap_callX rfl rfl (fn := 14) rfl (s1) (by (repeat' (first | exact PasC.nil | apply PasC.nil | apply PasC.cons | apply PasV.leaf rfl | apply PasV.nl | apply PasV.bp rfl | apply PasV.lend rfl rfl rfl | apply PasV.lend rfl rfl (ro_B _) | apply PasV.lend rfl rfl (ro_M _) | apply PasV.lend rfl rfl (ro_E _ _) | apply PasV.lend rfl rfl (ro_I _) | apply PasV.mv rfl | apply PasV.ag | apply PasV.fn | exact PasV.fs | apply PasV.any))) rfl rfl ?_)
          | ((with_reducible apply AP.k_any); refine ap_callX rfl rfl (fn := 14) rfl (s2) (by (repeat' (first | exact PasC.nil | apply PasC.nil | apply PasC.cons | apply PasV.leaf rfl | apply PasV.nl | apply PasV.bp rfl | apply PasV.lend rfl rfl rfl | apply PasV.lend rfl rfl (ro_B _) | apply PasV.lend rfl rfl (ro_M _) | apply PasV.lend rfl rfl (ro_E _ _) | apply PasV.lend rfl rfl (ro_I _) | apply PasV.mv rfl | apply PasV.ag | apply PasV.fn | exact PasV.fs | apply PasV.any))) rfl rfl ?_)
          | fail "no arm")
          all_goals (try simp only [nm, newS, plc, spl, bldA, bldS, zrow, chunks, ZC.val, Nat.reduceAdd, Nat.reduceSub, BEq.rfl])
          refine AP.nil ?_
          exact ⟨rfl, rfl⟩
        · intro h1 h2
          simp [depsOk, Region.binds] at h1 h2
          subst h1
          (repeat (obtain ⟨rfl, h2⟩ := h2))
          (try subst h2)
          clear hcl
          simp only [cond_true, cond_false, setT, List.set_cons_succ, List.set_cons_zero, List.getD_cons_succ, List.getD_cons_zero, List.set_cons_succ]
          (with_reducible apply AP.k_any); first | (refine AP.s1 rfl ?_ ?_; focus ((repeat' (with_reducible apply And.intro)) <;> (first | exact True.intro | exact rfl | omega | (simp; omega) | (simp; done) | assumption))) | fail "no step"
          all_goals (try simp only [nm, newS, plc, spl, bldA, bldS, zrow, chunks, ZC.val, Nat.reduceAdd, Nat.reduceSub, BEq.rfl])
          refine AP.nil ?_
          exact ⟨rfl, rfl⟩
        · intro h1 h2
          simp [depsOk, Region.binds] at h1 h2
          subst h1
          (repeat (obtain ⟨rfl, h2⟩ := h2))
          (try subst h2)
          clear hcl
          simp only [cond_true, cond_false, setT, List.set_cons_succ, List.set_cons_zero, List.getD_cons_succ, List.getD_cons_zero, List.set_cons_succ]
          (with_reducible apply AP.k_any); first | (refine AP.s1 rfl ?_ ?_; focus ((repeat' (with_reducible apply And.intro)) <;> (first | exact True.intro | exact rfl | omega | (simp; omega) | (simp; done) | assumption))) | fail "no step"
          all_goals (try simp only [nm, newS, plc, spl, bldA, bldS, zrow, chunks, ZC.val, Nat.reduceAdd, Nat.reduceSub, BEq.rfl])
          refine AP.nil ?_
          exact ⟨rfl, rfl⟩
        · intro h1 h2
          simp [depsOk, Region.binds] at h1 h2
          subst h1
          (repeat (obtain ⟨rfl, h2⟩ := h2))
          (try subst h2)
          clear hcl
          simp only [cond_true, cond_false, setT, List.set_cons_succ, List.set_cons_zero, List.getD_cons_succ, List.getD_cons_zero, List.set_cons_succ]
          (with_reducible apply AP.k_any); refine AP.gyes rfl rfl rfl ?_; dsimp only
          (with_reducible apply AP.k_any); first | (refine AP.s1 rfl ?_ ?_; focus ((repeat' (with_reducible apply And.intro)) <;> (first | exact True.intro | exact rfl | omega | (simp; omega) | (simp; done) | assumption))) | refine AP.pure rfl (pq_load1_rp rfl rfl rfl rfl (by (first | (refine ⟨?_, ?_⟩; assumption; rfl) | exact ⟨mapAt (by (first | omega | (simp; omega) | (simp; done) | assumption)), rfl⟩ | exact ⟨rfl, rfl⟩))) ?_ | refine AP.pure rfl (pq_loadN_rp rfl rfl rfl rfl (by (first | (refine ⟨?_, ?_⟩; assumption; rfl) | exact ⟨mapAt (by (first | omega | (simp; omega) | (simp; done) | assumption)), rfl⟩ | exact ⟨rfl, rfl⟩))) ?_ | refine AP.pure rfl (pq_load1_ep rfl rfl rfl rfl rfl (by (first | (refine ⟨?_, ?_⟩; assumption; rfl) | exact ⟨mapAt (by (first | omega | (simp; omega) | (simp; done) | assumption)), rfl⟩ | exact ⟨rfl, rfl⟩))) ?_ | refine AP.pure rfl (pq_loadN_ep rfl rfl rfl rfl rfl (by (first | (refine ⟨?_, ?_⟩; assumption; rfl) | exact ⟨mapAt (by (first | omega | (simp; omega) | (simp; done) | assumption)), rfl⟩ | exact ⟨rfl, rfl⟩))) ?_ | fail "no step"
          all_goals (try simp only [nm, newS, plc, spl, bldA, bldS, zrow, chunks, ZC.val, Nat.reduceAdd, Nat.reduceSub, BEq.rfl])
          refine AP.nil ?_
          exact ⟨rfl, rfl⟩
        · intro h1 h2
          simp [depsOk, Region.binds] at h1 h2
          subst h1
          (repeat (obtain ⟨rfl, h2⟩ := h2))
          (try subst h2)
          clear hcl
          simp only [cond_true, cond_false, setT, List.set_cons_succ, List.set_cons_zero, List.getD_cons_succ, List.getD_cons_zero, List.set_cons_succ]
          (with_reducible apply AP.k_any); refine AP.gyes rfl rfl rfl ?_; dsimp only
          (first
          | ((with_reducible apply AP.k_any); refine ap_callX rfl rfl (fn := 17) rfl (m1) (by (repeat' (first | exact PasC.nil | apply PasC.nil | apply PasC.cons | apply PasV.leaf rfl | apply PasV.nl | apply PasV.bp rfl | apply PasV.lend rfl rfl rfl | apply PasV.lend rfl rfl (ro_B _) | apply PasV.lend rfl rfl (ro_M _) | apply PasV.lend rfl rfl (ro_E _ _) | apply PasV.lend rfl rfl (ro_I _) | apply PasV.mv rfl | apply PasV.ag | apply PasV.fn | exact PasV.fs | apply PasV.any))) rfl rfl ?_)
          | fail "no arm")
          all_goals (try simp only [nm, newS, plc, spl, bldA, bldS, zrow, chunks, ZC.val, Nat.reduceAdd, Nat.reduceSub, BEq.rfl])
          refine AP.nil ?_
          exact ⟨rfl, rfl⟩
        · intro h1 h2
          simp [depsOk, Region.binds] at h1 h2
          subst h1
          (repeat (obtain ⟨rfl, h2⟩ := h2))
          (try subst h2)
          clear hcl
          simp only [cond_true, cond_false, setT, List.set_cons_succ, List.set_cons_zero, List.getD_cons_succ, List.getD_cons_zero, List.set_cons_succ]
          (with_reducible apply AP.k_any); refine AP.gyes rfl rfl rfl ?_; dsimp only
          (with_reducible apply AP.k_any); first | (refine AP.s1 rfl ?_ ?_; focus ((repeat' (with_reducible apply And.intro)) <;> (first | exact True.intro | exact rfl | omega | (simp; omega) | (simp; done) | assumption))) | refine AP.pure rfl (pq_load1_rp rfl rfl rfl rfl (by (first | (refine ⟨?_, ?_⟩; assumption; rfl) | exact ⟨mapAt (by (first | omega | (simp; omega) | (simp; done) | assumption)), rfl⟩ | exact ⟨rfl, rfl⟩))) ?_ | refine AP.pure rfl (pq_loadN_rp rfl rfl rfl rfl (by (first | (refine ⟨?_, ?_⟩; assumption; rfl) | exact ⟨mapAt (by (first | omega | (simp; omega) | (simp; done) | assumption)), rfl⟩ | exact ⟨rfl, rfl⟩))) ?_ | refine AP.pure rfl (pq_load1_ep rfl rfl rfl rfl rfl (by (first | (refine ⟨?_, ?_⟩; assumption; rfl) | exact ⟨mapAt (by (first | omega | (simp; omega) | (simp; done) | assumption)), rfl⟩ | exact ⟨rfl, rfl⟩))) ?_ | refine AP.pure rfl (pq_loadN_ep rfl rfl rfl rfl rfl (by (first | (refine ⟨?_, ?_⟩; assumption; rfl) | exact ⟨mapAt (by (first | omega | (simp; omega) | (simp; done) | assumption)), rfl⟩ | exact ⟨rfl, rfl⟩))) ?_ | fail "no step"
          all_goals (try simp only [nm, newS, plc, spl, bldA, bldS, zrow, chunks, ZC.val, Nat.reduceAdd, Nat.reduceSub, BEq.rfl])
          refine AP.nil ?_
          exact ⟨rfl, rfl⟩
        · intro h1 h2
          simp [depsOk, Region.binds] at h1 h2
          subst h1
          (repeat (obtain ⟨rfl, h2⟩ := h2))
          (try subst h2)
          clear hcl
          simp only [cond_true, cond_false, setT, List.set_cons_succ, List.set_cons_zero, List.getD_cons_succ, List.getD_cons_zero, List.set_cons_succ]
          (with_reducible apply AP.k_any); refine AP.gyes rfl rfl rfl ?_; dsimp only
          (first
          | ((with_reducible apply AP.k_any); refine ap_callX rfl rfl (fn := 18) rfl (n1) (by (repeat' (first | exact PasC.nil | apply PasC.nil | apply PasC.cons | apply PasV.leaf rfl | apply PasV.nl | apply PasV.bp rfl | apply PasV.lend rfl rfl rfl | apply PasV.lend rfl rfl (ro_B _) | apply PasV.lend rfl rfl (ro_M _) | apply PasV.lend rfl rfl (ro_E _ _) | apply PasV.lend rfl rfl (ro_I _) | apply PasV.mv rfl | apply PasV.ag | apply PasV.fn | exact PasV.fs | apply PasV.any))) rfl rfl ?_)
          | fail "no arm")
          all_goals (try simp only [nm, newS, plc, spl, bldA, bldS, zrow, chunks, ZC.val, Nat.reduceAdd, Nat.reduceSub, BEq.rfl])
          refine AP.nil ?_
          exact ⟨rfl, rfl⟩
        · intro h1 h2
          simp [depsOk, Region.binds] at h1 h2
          subst h1
          (repeat (obtain ⟨rfl, h2⟩ := h2))
          (try subst h2)
          clear hcl
          simp only [cond_true, cond_false, setT, List.set_cons_succ, List.set_cons_zero, List.getD_cons_succ, List.getD_cons_zero, List.set_cons_succ]
          (with_reducible apply AP.k_any); refine AP.gyes rfl rfl rfl ?_; dsimp only
          (with_reducible apply AP.k_any); first | (refine AP.s1 rfl ?_ ?_; focus ((repeat' (with_reducible apply And.intro)) <;> (first | exact True.intro | exact rfl | omega | (simp; omega) | (simp; done) | assumption))) | fail "no step"
          all_goals (try simp only [nm, newS, plc, spl, bldA, bldS, zrow, chunks, ZC.val, Nat.reduceAdd, Nat.reduceSub, BEq.rfl])
          refine AP.nil ?_
          exact ⟨rfl, rfl⟩
        · intro h1 h2
          simp [depsOk, Region.binds] at h1 h2
          subst h1
          (repeat (obtain ⟨rfl, h2⟩ := h2))
          (try subst h2)
          clear hcl
          simp only [cond_true, cond_false, setT, List.set_cons_succ, List.set_cons_zero, List.getD_cons_succ, List.getD_cons_zero, List.set_cons_succ]
          (with_reducible apply AP.k_any); first | (refine AP.s1 rfl ?_ ?_; focus ((repeat' (with_reducible apply And.intro)) <;> (first | exact True.intro | exact rfl | omega | (simp; omega) | (simp; done) | assumption))) | fail "no step"
          all_goals (try simp only [nm, newS, plc, spl, bldA, bldS, zrow, chunks, ZC.val, Nat.reduceAdd, Nat.reduceSub, BEq.rfl])
          refine AP.nil ?_
          exact ⟨rfl, rfl⟩
        · intro h1 h2
          simp [depsOk, Region.binds] at h1 h2
          subst h1
          (repeat (obtain ⟨rfl, h2⟩ := h2))
          (try subst h2)
          clear hcl
          simp only [cond_true, cond_false, setT, List.set_cons_succ, List.set_cons_zero, List.getD_cons_succ, List.getD_cons_zero, List.set_cons_succ]
          (with_reducible apply AP.k_any); first | (refine AP.s1 rfl ?_ ?_; focus ((repeat' (with_reducible apply And.intro)) <;> (first | exact True.intro | exact rfl | omega | (simp; omega) | (simp; done) | assumption))) | fail "no step"
          all_goals (try simp only [nm, newS, plc, spl, bldA, bldS, zrow, chunks, ZC.val, Nat.reduceAdd, Nat.reduceSub, BEq.rfl])
          refine AP.nil ?_
          exact ⟨rfl, rfl⟩
        · intro h1 h2
          simp [depsOk, Region.binds] at h1 h2
          subst h1
          (repeat (obtain ⟨rfl, h2⟩ := h2))
          (try subst h2)
          clear hcl
          simp only [cond_true, cond_false, setT, List.set_cons_succ, List.set_cons_zero, List.getD_cons_succ, List.getD_cons_zero, List.set_cons_succ]
          (with_reducible apply AP.k_any); refine AP.gyes rfl rfl rfl ?_; dsimp only
          (with_reducible apply AP.k_any); first | (refine AP.s1 rfl ?_ ?_; focus ((repeat' (with_reducible apply And.intro)) <;> (first | exact True.intro | exact rfl | omega | (simp; omega) | (simp; done) | assumption))) | refine AP.pure rfl (pq_load1_rp rfl rfl rfl rfl (by (first | (refine ⟨?_, ?_⟩; assumption; rfl) | exact ⟨mapAt (by (first | omega | (simp; omega) | (simp; done) | assumption)), rfl⟩ | exact ⟨rfl, rfl⟩))) ?_ | refine AP.pure rfl (pq_loadN_rp rfl rfl rfl rfl (by (first | (refine ⟨?_, ?_⟩; assumption; rfl) | exact ⟨mapAt (by (first | omega | (simp; omega) | (simp; done) | assumption)), rfl⟩ | exact ⟨rfl, rfl⟩))) ?_ | refine AP.pure rfl (pq_load1_ep rfl rfl rfl rfl rfl (by (first | (refine ⟨?_, ?_⟩; assumption; rfl) | exact ⟨mapAt (by (first | omega | (simp; omega) | (simp; done) | assumption)), rfl⟩ | exact ⟨rfl, rfl⟩))) ?_ | refine AP.pure rfl (pq_loadN_ep rfl rfl rfl rfl rfl (by (first | (refine ⟨?_, ?_⟩; assumption; rfl) | exact ⟨mapAt (by (first | omega | (simp; omega) | (simp; done) | assumption)), rfl⟩ | exact ⟨rfl, rfl⟩))) ?_ | fail "no step"
          all_goals (try simp only [nm, newS, plc, spl, bldA, bldS, zrow, chunks, ZC.val, Nat.reduceAdd, Nat.reduceSub, BEq.rfl])
          refine AP.nil ?_
          exact ⟨rfl, rfl⟩
        · intro h1 h2
          simp [depsOk, Region.binds] at h1 h2
          subst h1
          (repeat (obtain ⟨rfl, h2⟩ := h2))
          (try subst h2)
          clear hcl
          simp only [cond_true, cond_false, setT, List.set_cons_succ, List.set_cons_zero, List.getD_cons_succ, List.getD_cons_zero, List.set_cons_succ]
          (with_reducible apply AP.k_any); refine AP.gyes rfl rfl rfl ?_; dsimp only
          (first
          | ((with_reducible apply AP.k_any); refine ap_callX rfl rfl (fn := 19) rfl (m2) (by (repeat' (first | exact PasC.nil | apply PasC.nil | apply PasC.cons | apply PasV.leaf rfl | apply PasV.nl | apply PasV.bp rfl | apply PasV.lend rfl rfl rfl | apply PasV.lend rfl rfl (ro_B _) | apply PasV.lend rfl rfl (ro_M _) | apply PasV.lend rfl rfl (ro_E _ _) | apply PasV.lend rfl rfl (ro_I _) | apply PasV.mv rfl | apply PasV.ag | apply PasV.fn | exact PasV.fs | apply PasV.any))) rfl rfl ?_)
          | fail "no arm")
          all_goals (try simp only [nm, newS, plc, spl, bldA, bldS, zrow, chunks, ZC.val, Nat.reduceAdd, Nat.reduceSub, BEq.rfl])
          refine AP.nil ?_
          exact ⟨rfl, rfl⟩
        · intro h1 h2
          simp [depsOk, Region.binds] at h1 h2
          subst h1
          (repeat (obtain ⟨rfl, h2⟩ := h2))
          (try subst h2)
          clear hcl
          simp only [cond_true, cond_false, setT, List.set_cons_succ, List.set_cons_zero, List.getD_cons_succ, List.getD_cons_zero, List.set_cons_succ]
          (with_reducible apply AP.k_any); refine AP.gyes rfl rfl rfl ?_; dsimp only
          (with_reducible apply AP.k_any); first | (refine AP.s1 rfl ?_ ?_; focus ((repeat' (with_reducible apply And.intro)) <;> (first | exact True.intro | exact rfl | omega | (simp; omega) | (simp; done) | assumption))) | refine AP.pure rfl (pq_load1_rp rfl rfl rfl rfl (by (first | (refine ⟨?_, ?_⟩; assumption; rfl) | exact ⟨mapAt (by (first | omega | (simp; omega) | (simp; done) | assumption)), rfl⟩ | exact ⟨rfl, rfl⟩))) ?_ | refine AP.pure rfl (pq_loadN_rp rfl rfl rfl rfl (by (first | (refine ⟨?_, ?_⟩; assumption; rfl) | exact ⟨mapAt (by (first | omega | (simp; omega) | (simp; done) | assumption)), rfl⟩ | exact ⟨rfl, rfl⟩))) ?_ | refine AP.pure rfl (pq_load1_ep rfl rfl rfl rfl rfl (by (first | (refine ⟨?_, ?_⟩; assumption; rfl) | exact ⟨mapAt (by (first | omega | (simp; omega) | (simp; done) | assumption)), rfl⟩ | exact ⟨rfl, rfl⟩))) ?_ | refine AP.pure rfl (pq_loadN_ep rfl rfl rfl rfl rfl (by (first | (refine ⟨?_, ?_⟩; assumption; rfl) | exact ⟨mapAt (by (first | omega | (simp; omega) | (simp; done) | assumption)), rfl⟩ | exact ⟨rfl, rfl⟩))) ?_ | fail "no step"
          all_goals (try simp only [nm, newS, plc, spl, bldA, bldS, zrow, chunks, ZC.val, Nat.reduceAdd, Nat.reduceSub, BEq.rfl])
          refine AP.nil ?_
          exact ⟨rfl, rfl⟩
        · intro h1 h2
          simp [depsOk, Region.binds] at h1 h2
          subst h1
          (repeat (obtain ⟨rfl, h2⟩ := h2))
          (try subst h2)
          clear hcl
          simp only [cond_true, cond_false, setT, List.set_cons_succ, List.set_cons_zero, List.getD_cons_succ, List.getD_cons_zero, List.set_cons_succ]
          (with_reducible apply AP.k_any); refine AP.gyes rfl rfl rfl ?_; dsimp only
          (first
          | ((with_reducible apply AP.k_any); refine ap_callX rfl rfl (fn := 20) rfl (n2) (by (repeat' (first | exact PasC.nil | apply PasC.nil | apply PasC.cons | apply PasV.leaf rfl | apply PasV.nl | apply PasV.bp rfl | apply PasV.lend rfl rfl rfl | apply PasV.lend rfl rfl (ro_B _) | apply PasV.lend rfl rfl (ro_M _) | apply PasV.lend rfl rfl (ro_E _ _) | apply PasV.lend rfl rfl (ro_I _) | apply PasV.mv rfl | apply PasV.ag | apply PasV.fn | exact PasV.fs | apply PasV.any))) rfl rfl ?_)
          | fail "no arm")
          all_goals (try simp only [nm, newS, plc, spl, bldA, bldS, zrow, chunks, ZC.val, Nat.reduceAdd, Nat.reduceSub, BEq.rfl])
          refine AP.nil ?_
          exact ⟨rfl, rfl⟩
        · intro h1 h2
          simp [depsOk, Region.binds] at h1 h2
          subst h1
          (repeat (obtain ⟨rfl, h2⟩ := h2))
          (try subst h2)
          clear hcl
          simp only [cond_true, cond_false, setT, List.set_cons_succ, List.set_cons_zero, List.getD_cons_succ, List.getD_cons_zero, List.set_cons_succ]
          (with_reducible apply AP.k_any); refine AP.gyes rfl rfl rfl ?_; dsimp only
          (with_reducible apply AP.k_any); first | (refine AP.s1 rfl ?_ ?_; focus ((repeat' (with_reducible apply And.intro)) <;> (first | exact True.intro | exact rfl | omega | (simp; omega) | (simp; done) | assumption))) | fail "no step"
          all_goals (try simp only [nm, newS, plc, spl, bldA, bldS, zrow, chunks, ZC.val, Nat.reduceAdd, Nat.reduceSub, BEq.rfl])
          refine AP.nil ?_
          exact ⟨rfl, rfl⟩
        · intro h1 h2
          simp [depsOk, Region.binds] at h1 h2
          subst h1
          (repeat (obtain ⟨rfl, h2⟩ := h2))
          (try subst h2)
          clear hcl
          simp only [cond_true, cond_false, setT, List.set_cons_succ, List.set_cons_zero, List.getD_cons_succ, List.getD_cons_zero, List.set_cons_succ]
          (with_reducible apply AP.k_any); first | (refine AP.s1 rfl ?_ ?_; focus ((repeat' (with_reducible apply And.intro)) <;> (first | exact True.intro | exact rfl | omega | (simp; omega) | (simp; done) | assumption))) | fail "no step"
          all_goals (try simp only [nm, newS, plc, spl, bldA, bldS, zrow, chunks, ZC.val, Nat.reduceAdd, Nat.reduceSub, BEq.rfl])
          refine AP.nil ?_
          exact ⟨rfl, rfl⟩
        · intro h1 h2
          simp [depsOk, Region.binds] at h1 h2
          subst h1
          (repeat (obtain ⟨rfl, h2⟩ := h2))
          (try subst h2)
          clear hcl
          simp only [cond_true, cond_false, setT, List.set_cons_succ, List.set_cons_zero, List.getD_cons_succ, List.getD_cons_zero, List.set_cons_succ]
          (with_reducible apply AP.k_any); first | (refine AP.s1 rfl ?_ ?_; focus ((repeat' (with_reducible apply And.intro)) <;> (first | exact True.intro | exact rfl | omega | (simp; omega) | (simp; done) | assumption))) | fail "no step"
          all_goals (try simp only [nm, newS, plc, spl, bldA, bldS, zrow, chunks, ZC.val, Nat.reduceAdd, Nat.reduceSub, BEq.rfl])
          refine AP.nil ?_
          exact ⟨rfl, rfl⟩
    repeat' (first
      | ((first
      | ((with_reducible apply AP.k_any); first
               | (refine AP.s1 rfl ?_ ?_; focus ((repeat' (with_reducible apply And.intro)) <;> (first | exact True.intro | exact rfl | omega | (simp; omega) | (simp; done) | assumption)))
               | (refine AP.s2 rfl ?_ ?_; focus ((repeat' (with_reducible apply And.intro)) <;> (first | exact True.intro | exact rfl | omega | (simp; omega) | (simp; done) | assumption)))
               | (refine AP.gyes rfl rfl rfl ?_; dsimp only) | refine AP.gno rfl rfl rfl rfl ?_ | refine AP.gund rfl rfl rfl ?_ | (refine AP.gsplit rfl rfl rfl (fun hg => ?_) (fun hg => ?_))
               | refine ap_box rfl rfl rfl rfl ?_
        )
      
      )
        <;> (try simp only [nm, newS, plc, spl, bldA, bldS, zrow, chunks, ZC.val, Nat.reduceAdd, Nat.reduceSub, BEq.rfl]))
      | ((with_reducible apply AP.k_nil); first
          | (refine AP.nil (hQ' _ ?_); clear hQ' Q')
          | refine AP.nil ?_)
      | ((with_reducible apply CP.k_reg); refine cp_regG fun Q' hQ' => ?_)
        | (with_reducible apply CP.k_reg1; refine cp_region ?_)
        | ((with_reducible apply CP.k_cond); first
            | refine cp_condT rfl ?_
            | refine cp_condF rfl ?_
            | refine cp_cond rfl (fun hc => ?_) (fun hc => ?_))
        | (with_reducible first | refine cp_block ?_ | refine cp_exit ?_ | refine cp_ret ?_ | refine cp_skip ?_ | refine cp_seq ?_ | refine inB_hit ?_ | refine inB_n ?_ | refine inB_r ?_ | refine thenQ_n ?_ | refine thenQ_r ?_ | refine thenQ_e ?_ | refine cpn_succ ?_)
        | (refine inB_miss rfl ?_))
    apply RetQ.mk (ks := []) (by first | exact .inr rfl | exact .inl rfl)
    case hl => (repeat' (first | exact ResL.nil | apply ResL.cons (Res1.row rfl rfl rfl rfl rfl) | apply ResL.cons (Res1.flat rfl rfl rfl rfl rfl) | apply ResL.cons (Res1.tmp (by (try simp only [List.getD_cons_succ, List.getD_cons_zero]); exact rfl))))
    case hc => (repeat' (first | exact ClsC.nil | exact ClsL.nil | apply ClsC.nl | apply ClsC.leaf rfl | apply ClsC.hd rfl | apply ClsC.fn | apply ClsR.tu | apply ClsL.cons | apply ClsV.ag | exact ClsV.bp | exact ClsV.one (ClsC.leaf rfl ClsC.nil) | exact ClsV.one (ClsC.nl ClsC.nil) | exact ClsV.one (ClsC.hd rfl ClsC.nil) | apply ClsR.one))
    case hr => (repeat' (first | exact RnV.leaf rfl | exact RnC.nil | apply RnC.cons | apply RnV.ag | apply RnV.tu | exact RnV.bp rfl))
    case ho => (repeat' (first | exact Out.nil | apply Out.cons rfl | exact ClsC.nil | apply ClsC.nl | apply ClsC.leaf rfl | apply ClsC.hd rfl | apply ClsC.fn | apply ClsC.fz rfl (ro_B _) | apply ClsC.fz rfl (ro_M _) | apply ClsC.fz rfl (ro_E _ _) | apply ClsC.fz rfl rfl))
    case hk => exact hks_of rfl
    case hq => (try dsimp only [resV, List.getD_cons_succ, List.getD_cons_zero]); exact ⟨rfl, rfl⟩
set_option maxRecDepth 100000 in
theorem messageParts_lifted (os : Os) (started : os.Started) (H : Type) (enc : TypeId × Value → H) (F : Stop.Interp) :
    ReturnsInHanded {} Try.checked os 3 .any ((Rows.OpenSpec.upto Rows.messagePartsSpec).pre6 enc Try.prog Try.f3 Rows.messagePartsUptoRow.domain false) (((Rows.OpenSpec.upto Rows.messagePartsSpec).at F).post enc Try.prog Try.f3 false true false false) := by
  refine returnsInHanded_of_cond (C := Try.checked) (s := Rows.OpenSpec.upto Rows.messagePartsSpec) (k := Rows.uptoSmall) rfl own_knob started (by kernel_rfl) Try.func3
    (OpenSpec.witness (enc := enc) (C := Try.checked) (s := Rows.OpenSpec.upto Rows.messagePartsSpec) (k := Rows.uptoSmall) rfl false ⟨#[], #[.agg #[.int .i64 0, .int .i64 0, .int .i64 0, .int .i64 0, .slice none 0 0], .agg #[.int .i64 0, .slice none 0 0]], []⟩ 8 (by kernel_rfl) (by kernel_rfl) (by kernel_rfl)
      (x := ([.agg [.lit (.int .i64 0), .lit (.int .i64 0), .lit (.int .i64 0), .lit (.int .i64 0), .nil], .agg [.lit (.int .i64 0), .nil]], [], [])) (by kernel_rfl) rfl (by kernel_rfl)) ?_
  intro W base args ds gs before hval0 hW _ hk _
  have hval : ∀ (j : Nat) t v, Try.f3.params[j]? = some t → args[j]? = some v → Value.okWide Try.prog W .any base t v := hval0
  have hW' := hW
  obtain ⟨p, q, hA0, hV, rfl, hfz, hnd⟩ := hW
  have hA : DataW.TrodAll enc Try.prog W 0 (fun _ => true) true Try.f3.params.toList args.toList ds p := hA0
  rw [Try.params3] at hA hval
  obtain ⟨rfl, rfl⟩ := trodVars_none hV
  have hb := bulk_of hk
  obtain ⟨v0, vs0, d0, ds0, p0, q0, hargs, rfl, rfl, h0, r0⟩ := trodAll_cons hA
  obtain ⟨v1, vs1, d1, ds1, p1, q1, rfl, rfl, rfl, h1, r1⟩ := trodAll_cons r0
  obtain ⟨rfl, rfl, rfl⟩ := trodAll_nil r1
  obtain rfl : args = #[v0, v1] := by cases args; simp_all
  simp only [List.append_nil, Rows.uptoBulkAll, Nat.add_zero] at hb
  obtain ⟨en, hen, hr0⟩ := arg_ag Try.underlying24 oen (hval 0 _ v0 rfl rfl) h0
  obtain ⟨cf, hcf, hr1⟩ := arg_ag Try.underlying27 ocf (hval 1 _ v1 rfl rfl) h1
  have hb1 := hen.2.2.2.2
  have hb2 := hcf.2.2
  refine (ac_law (parts_ac en cf (by omega) (by omega)) (W := W) (vs := [v0, v1]) fun φ κ => .cons (S := Ct.z) (T := Ct.z) (hr0 φ κ) (.cons (S := Ct.z) (T := Ct.z) (hr1 φ κ) .nil fun _ => rfl) fun _ => rfl).mono fun e W' ⟨he, hb⟩ => ⟨_, he, ?_⟩
  exact law_post laidOut rfl (by kernel_rfl) Try.underlying4 (by kernel_rfl) hW' (fun gs' h => by subst h; rfl) hb
theorem messageParts_holds : Rows.MessagePartsUptoSaid :=
  OpenClaim.holds_of_cond 3 Try.f3 rfl rfl rfl rfl rfl rfl rfl ⟨rfl, rfl, rfl, rfl, rfl⟩ rfl rfl rfl rfl rfl (by kernel_rfl) Try.func3 (by kernel_rfl)
    (of_decide_eq_true (by kernel_rfl)) (by unfold Func.isWrapper; first | (rw [if_pos (by decide +kernel)]; kernel_rfl) | (rw [if_neg (by decide +kernel)]; exact ⟨rfl, rfl⟩))
    (fun os started H enc _ F => messageParts_lifted os started H enc F)
#print axioms messageParts_holds
end Go.Proofs.Ytpdegeknhapgmaa
