/-
  Texts joined: V3, Br, BrA, P1, W6, W7, Va, P2, Frm, Dw, M1.
-/
import Derived.Test.YtpdegeknhapgmaaZ1
import Derived.Test.YtpdegeknhapgmaaZ2
import Derived.Test.YtpdegeknhapgmaaZ3
import Derived.Test.YtpdegeknhapgmaaRows
import Derived.OpenShut
import Derived.Carry
import Derived.ChangeArms
import Derived.ChangeSame
import Derived.ChangeMaps5
import Derived.JoinedCond
import Derived.Deep.Slices
namespace Go.Proofs.Ytpdegeknhapgmaa
set_option linter.unusedVariables false
set_option linter.unusedSimpArgs false
set_option maxHeartbeats 8000000
open Go.RowKit
set_option maxRecDepth 100000
def restF (e : Entry) : List UInt8 := numS [e.stamp, e.client, e.id] ++ (putS e.body.length 4 ++ e.body)
def entryF (e : Entry) : List UInt8 := intS e.pos ++ restF e
def memF (m : Member) : List UInt8 := numS [m.node, m.since] ++ flagS m.whole
def configF (c : Config) : List UInt8 := numS [c.epoch, c.members.length] ++ (c.members.map memF).flatten
theorem flagS_length (b : Bool) : (flagS b).length = 1 := by cases b <;> rfl
theorem memF_length (m : Member) : (memF m).length = 17 := by simp [memF, numS_length, flagS_length]
theorem restF_length (e : Entry) : (restF e).length = 28 + e.body.length := by simp [restF, numS_length, putS_length]; omega
theorem configF_length (c : Config) : (configF c).length = 16 + 17 * c.members.length := by
  have : ∀ l : List Member, ((l.map memF).flatten).length = 17 * l.length := by
    intro l
    induction l with
    | nil => rfl
    | cons a l ih => simp only [List.map_cons, List.flatten_cons, List.length_append, memF_length, List.length_cons, ih]; omega
  simp [configF, numS_length, this]
theorem drest_ac (e : Entry) (hb : e.body.length ≤ 10000000) : AC Try.prog 44 [.ag (eE none e)] [] (fun v bs' => v = bs (some tU) (restF e) ∧ bs' = []) := by
  have h1 := numbers_ac [e.stamp, e.client, e.id] (by simp)
  have h2 := (dbytes_ac e.body hb).ro (r2 := bs none (putS e.body.length 4 ++ e.body)) (by simp only [AV.ro, ro_B])
  have h3 := cat_ac (numS [e.stamp, e.client, e.id]) (putS e.body.length 4 ++ e.body) (by simp [numS_length]) (by simp [putS_length]; omega)
  refine AC.enter Try.func44 rfl rfl Try.ntmps44 (fl1_all rfl) (by (repeat' (first | exact Bk.nil | apply Bk.cons rfl rfl rfl))) ?_
  intro X
  simp only [nm, newS, plc, spl, bldA, bldS, zrow, chunks, ZC.val, Nat.reduceAdd, Nat.reduceSub, BEq.rfl]
  repeat' (first
    | ((first
    | ((with_reducible apply AP.k_any); first
             | (refine AP.sm false rfl ?_ ?_; focus ((repeat' (with_reducible apply And.intro)) <;> (first | exact True.intro | exact rfl | omega | (simp; omega) | (simp; done) | assumption | exact .inl rfl | (refine .inr ?_; simp; try omega))))
      )
    
    )
      <;> (try simp only [nm, newS, plc, spl, bldA, bldS, zrow, chunks, ZC.val, Nat.reduceAdd, Nat.reduceSub, BEq.rfl]))
    | ((with_reducible apply AP.k_nil); first
        | (refine AP.nil (hQ' _ ?_); clear hQ' Q')
        | refine AP.nil ?_)
    | ((with_reducible apply CP.k_reg); refine cp_regG fun Q' hQ' => ?_)
      | (with_reducible apply CP.k_reg1; refine cp_region ?_)
      | ((with_reducible apply CP.k_cond); first
          | refine cp_condT rfl ?_
          | refine cp_condF rfl ?_
          | refine cp_cond rfl (fun hc => ?_) (fun hc => ?_))
      | (with_reducible first | refine cp_block ?_ | refine cp_exit ?_ | refine cp_ret ?_ | refine cp_skip ?_ | refine cp_seq ?_ | refine inB_hit ?_ | refine inB_n ?_ | refine inB_r ?_ | refine thenQ_n ?_ | refine thenQ_r ?_ | refine thenQ_e ?_ | refine cpn_succ ?_)
      | (refine inB_miss rfl ?_)
      | (simp only [List.append_eq, List.cons_append, List.nil_append]))
  refine CP.gh gh_slot ?_; simp only [nm, newS, plc, spl, bldA, bldS, zrow, chunks, ZC.val, Nat.reduceAdd, Nat.reduceSub, BEq.rfl]
  refine CP.gh gh_slot ?_; simp only [nm, newS, plc, spl, bldA, bldS, zrow, chunks, ZC.val, Nat.reduceAdd, Nat.reduceSub, BEq.rfl]
  refine CP.gh gh_slot ?_; simp only [nm, newS, plc, spl, bldA, bldS, zrow, chunks, ZC.val, Nat.reduceAdd, Nat.reduceSub, BEq.rfl]
  refine cp_drawI (fun zs zb => ⟨setT zs.t [(3, cond (zb.getD 0 false) (.bp 0 1 1) (.tu [])), (4, cond (zb.getD 1 false) (I e.stamp) (.tu [])), (5, cond (zb.getD 2 false) (.bp 0 1 2) (.tu [])), (6, cond (zb.getD 3 false) (I e.client) (.tu [])), (7, cond (zb.getD 4 false) (.bp 0 1 3) (.tu [])), (8, cond (zb.getD 5 false) (I e.id) (.tu [])), (9, cond (zb.getD 6 false) (.hd 1 1) (.tu [])), (10, cond (zb.getD 7 false) (.hd 2 1) (.tu [])), (11, cond (zb.getD 8 false) (.bp 0 1 4) (.tu [])), (12, cond (zb.getD 9 false) (bs none e.body) (.tu [])), (13, cond (zb.getD 10 false) (bs none (putS e.body.length 4 ++ e.body)) (.tu [])), (14, cond (zb.getD 11 false) (.hd 3 1) (.tu [])), (2, cond (zb.getD 12 false) (.hd 3 1) (.sc (.slice none 0 0)))], (((zs.b.set 1 (cond (zb.getD 6 false) (⟨1, .r tI 1 [eI e.stamp, eI e.client, eI e.id]⟩) (zs.b.getD 1 ⟨0, .x⟩))).set 2 (cond (zb.getD 7 false) (⟨1, .r tU 1 ((numS [e.stamp, e.client, e.id]).map eB)⟩) (zs.b.getD 2 ⟨0, .x⟩))).set 3 (cond (zb.getD 11 false) (⟨1, .r tU 1 ((restF e).map eB)⟩) (zs.b.getD 3 ⟨0, .x⟩)))⟩) (by kernel_rfl) (by kernel_rfl) (by kernel_rfl) ?_ ?_
  rotate_left
  simp only [cond_true, cond_false, setT, List.set_cons_succ, List.set_cons_zero, List.getD_cons_succ, List.getD_cons_zero, List.set_cons_succ, List.length_cons, List.length_nil, List.replicate_succ, List.replicate_zero, Nat.reduceAdd]
  rotate_left
  · intro b hb' hcl
    obtain ⟨l0, b0, rfl, hb0⟩ := len_cons hb'
    obtain ⟨l1, b1, rfl, hb1⟩ := len_cons hb0
    obtain ⟨l2, b2, rfl, hb2⟩ := len_cons hb1
    obtain ⟨l3, b3, rfl, hb3⟩ := len_cons hb2
    obtain ⟨l4, b4, rfl, hb4⟩ := len_cons hb3
    obtain ⟨l5, b5, rfl, hb5⟩ := len_cons hb4
    obtain ⟨l6, b6, rfl, hb6⟩ := len_cons hb5
    obtain ⟨l7, b7, rfl, hb7⟩ := len_cons hb6
    obtain ⟨l8, b8, rfl, hb8⟩ := len_cons hb7
    obtain ⟨l9, b9, rfl, hb9⟩ := len_cons hb8
    obtain ⟨l10, b10, rfl, hb10⟩ := len_cons hb9
    obtain ⟨l11, b11, rfl, hb11⟩ := len_cons hb10
    obtain ⟨l12, b12, rfl, hb12⟩ := len_cons hb11
    obtain rfl := List.length_eq_zero_iff.1 hb12
    clear hb' hb0 hb1 hb2 hb3 hb4 hb5 hb6 hb7 hb8 hb9 hb10 hb11 hb12
    · simp only [closedB, depsOk, Region.binds, List.toList_toArray, List.all_cons, List.all_nil, List.getD_cons_succ, List.getD_cons_zero, Bool.not_true, Bool.not_false, Bool.true_or, Bool.false_or, Bool.and_true, Bool.true_and, Bool.or_true, Bool.and_false, Bool.or_false, Bool.false_and, Bool.and_eq_true, Bool.or_eq_true, Bool.not_eq_true'] at hcl
      simp only [StepsP]
      refine ⟨?_, ?_, ?_, ?_, ?_, ?_, ?_, ?_, ?_, ?_, ?_, ?_, ?_, trivial⟩
      · intro h1 h2
        simp [depsOk, Region.binds] at h1 h2
        subst h1
        (repeat (obtain ⟨rfl, h2⟩ := h2))
        (try subst h2)
        clear hcl
        simp only [cond_true, cond_false, setT, List.set_cons_succ, List.set_cons_zero, List.getD_cons_succ, List.getD_cons_zero, List.set_cons_succ]
        (with_reducible apply AP.k_any); first | (refine AP.sm false rfl ?_ ?_; focus ((repeat' (with_reducible apply And.intro)) <;> (first | exact True.intro | exact rfl | omega | (simp; omega) | (simp; done) | assumption | exact .inl rfl | (refine .inr ?_; simp; try omega)))) | fail "no step"
        all_goals (try simp only [nm, newS, plc, spl, bldA, bldS, zrow, chunks, ZC.val, Nat.reduceAdd, Nat.reduceSub, BEq.rfl])
        refine AP.nil ?_
        exact ⟨rfl, rfl⟩
      · intro h1 h2
        simp [depsOk, Region.binds] at h1 h2
        subst h1
        (repeat (obtain ⟨rfl, h2⟩ := h2))
        (try subst h2)
        (first | (obtain rfl : l6 = false := by grind only) | skip)
        (first | (obtain rfl : l7 = false := by grind only) | skip)
        (first | (obtain rfl : l11 = false := by grind only) | skip)
        clear hcl
        simp only [cond_true, cond_false, setT, List.set_cons_succ, List.set_cons_zero, List.getD_cons_succ, List.getD_cons_zero, List.set_cons_succ]
        (with_reducible apply AP.k_any); first | (refine AP.sm false rfl ?_ ?_; focus ((repeat' (with_reducible apply And.intro)) <;> (first | exact True.intro | exact rfl | omega | (simp; omega) | (simp; done) | assumption | exact .inl rfl | (refine .inr ?_; simp; try omega)))) | (refine AP.el rfl ?_ (by (first | (refine ⟨?_, ?_⟩; assumption; rfl) | exact ⟨mapAt (by (first | omega | (simp; omega) | (simp; done) | assumption)), rfl⟩ | exact ⟨rfl, rfl⟩)) ?_; focus ((repeat' (with_reducible apply And.intro)) <;> (first | exact True.intro | exact rfl | omega | (simp; omega) | (simp; done) | assumption | exact .inl rfl | (refine .inr ?_; simp; try omega)))) | fail "no step"
        all_goals (try simp only [nm, newS, plc, spl, bldA, bldS, zrow, chunks, ZC.val, Nat.reduceAdd, Nat.reduceSub, BEq.rfl])
        refine AP.nil ?_
        exact ⟨rfl, rfl⟩
      · intro h1 h2
        simp [depsOk, Region.binds] at h1 h2
        subst h1
        (repeat (obtain ⟨rfl, h2⟩ := h2))
        (try subst h2)
        clear hcl
        simp only [cond_true, cond_false, setT, List.set_cons_succ, List.set_cons_zero, List.getD_cons_succ, List.getD_cons_zero, List.set_cons_succ]
        (with_reducible apply AP.k_any); first | (refine AP.sm false rfl ?_ ?_; focus ((repeat' (with_reducible apply And.intro)) <;> (first | exact True.intro | exact rfl | omega | (simp; omega) | (simp; done) | assumption | exact .inl rfl | (refine .inr ?_; simp; try omega)))) | fail "no step"
        all_goals (try simp only [nm, newS, plc, spl, bldA, bldS, zrow, chunks, ZC.val, Nat.reduceAdd, Nat.reduceSub, BEq.rfl])
        refine AP.nil ?_
        exact ⟨rfl, rfl⟩
      · intro h1 h2
        simp [depsOk, Region.binds] at h1 h2
        subst h1
        (repeat (obtain ⟨rfl, h2⟩ := h2))
        (try subst h2)
        (first | (obtain rfl : l6 = false := by grind only) | skip)
        (first | (obtain rfl : l7 = false := by grind only) | skip)
        (first | (obtain rfl : l11 = false := by grind only) | skip)
        clear hcl
        simp only [cond_true, cond_false, setT, List.set_cons_succ, List.set_cons_zero, List.getD_cons_succ, List.getD_cons_zero, List.set_cons_succ]
        (with_reducible apply AP.k_any); first | (refine AP.sm false rfl ?_ ?_; focus ((repeat' (with_reducible apply And.intro)) <;> (first | exact True.intro | exact rfl | omega | (simp; omega) | (simp; done) | assumption | exact .inl rfl | (refine .inr ?_; simp; try omega)))) | (refine AP.el rfl ?_ (by (first | (refine ⟨?_, ?_⟩; assumption; rfl) | exact ⟨mapAt (by (first | omega | (simp; omega) | (simp; done) | assumption)), rfl⟩ | exact ⟨rfl, rfl⟩)) ?_; focus ((repeat' (with_reducible apply And.intro)) <;> (first | exact True.intro | exact rfl | omega | (simp; omega) | (simp; done) | assumption | exact .inl rfl | (refine .inr ?_; simp; try omega)))) | fail "no step"
        all_goals (try simp only [nm, newS, plc, spl, bldA, bldS, zrow, chunks, ZC.val, Nat.reduceAdd, Nat.reduceSub, BEq.rfl])
        refine AP.nil ?_
        exact ⟨rfl, rfl⟩
      · intro h1 h2
        simp [depsOk, Region.binds] at h1 h2
        subst h1
        (repeat (obtain ⟨rfl, h2⟩ := h2))
        (try subst h2)
        clear hcl
        simp only [cond_true, cond_false, setT, List.set_cons_succ, List.set_cons_zero, List.getD_cons_succ, List.getD_cons_zero, List.set_cons_succ]
        (with_reducible apply AP.k_any); first | (refine AP.sm false rfl ?_ ?_; focus ((repeat' (with_reducible apply And.intro)) <;> (first | exact True.intro | exact rfl | omega | (simp; omega) | (simp; done) | assumption | exact .inl rfl | (refine .inr ?_; simp; try omega)))) | fail "no step"
        all_goals (try simp only [nm, newS, plc, spl, bldA, bldS, zrow, chunks, ZC.val, Nat.reduceAdd, Nat.reduceSub, BEq.rfl])
        refine AP.nil ?_
        exact ⟨rfl, rfl⟩
      · intro h1 h2
        simp [depsOk, Region.binds] at h1 h2
        subst h1
        (repeat (obtain ⟨rfl, h2⟩ := h2))
        (try subst h2)
        (first | (obtain rfl : l6 = false := by grind only) | skip)
        (first | (obtain rfl : l7 = false := by grind only) | skip)
        (first | (obtain rfl : l11 = false := by grind only) | skip)
        clear hcl
        simp only [cond_true, cond_false, setT, List.set_cons_succ, List.set_cons_zero, List.getD_cons_succ, List.getD_cons_zero, List.set_cons_succ]
        (with_reducible apply AP.k_any); first | (refine AP.sm false rfl ?_ ?_; focus ((repeat' (with_reducible apply And.intro)) <;> (first | exact True.intro | exact rfl | omega | (simp; omega) | (simp; done) | assumption | exact .inl rfl | (refine .inr ?_; simp; try omega)))) | (refine AP.el rfl ?_ (by (first | (refine ⟨?_, ?_⟩; assumption; rfl) | exact ⟨mapAt (by (first | omega | (simp; omega) | (simp; done) | assumption)), rfl⟩ | exact ⟨rfl, rfl⟩)) ?_; focus ((repeat' (with_reducible apply And.intro)) <;> (first | exact True.intro | exact rfl | omega | (simp; omega) | (simp; done) | assumption | exact .inl rfl | (refine .inr ?_; simp; try omega)))) | fail "no step"
        all_goals (try simp only [nm, newS, plc, spl, bldA, bldS, zrow, chunks, ZC.val, Nat.reduceAdd, Nat.reduceSub, BEq.rfl])
        refine AP.nil ?_
        exact ⟨rfl, rfl⟩
      · intro h1 h2
        simp [depsOk, Region.binds] at h1 h2
        subst h1
        (repeat (obtain ⟨rfl, h2⟩ := h2))
        (try subst h2)
        (first | (obtain rfl : l7 = false := by grind only) | skip)
        (first | (obtain rfl : l11 = false := by grind only) | skip)
        clear hcl
        simp only [cond_true, cond_false, setT, List.set_cons_succ, List.set_cons_zero, List.getD_cons_succ, List.getD_cons_zero, List.set_cons_succ]
        (with_reducible apply AP.k_any); first | (refine AP.sm false rfl ?_ ?_; focus ((repeat' (with_reducible apply And.intro)) <;> (first | exact True.intro | exact rfl | omega | (simp; omega) | (simp; done) | assumption | exact .inl rfl | (refine .inr ?_; simp; try omega)))) | fail "no step"
        all_goals (try simp only [nm, newS, plc, spl, bldA, bldS, zrow, chunks, ZC.val, Nat.reduceAdd, Nat.reduceSub, BEq.rfl])
        refine AP.nil ?_
        exact ⟨rfl, rfl⟩
      · intro h1 h2
        simp [depsOk, Region.binds] at h1 h2
        subst h1
        (repeat (obtain ⟨rfl, h2⟩ := h2))
        (try subst h2)
        (first | (obtain rfl : l6 = true := by grind only) | skip)
        (first | (obtain rfl : l11 = false := by grind only) | skip)
        clear hcl
        simp only [cond_true, cond_false, setT, List.set_cons_succ, List.set_cons_zero, List.getD_cons_succ, List.getD_cons_zero, List.set_cons_succ]
        (first
        | ((with_reducible apply AP.k_any); refine ap_callL rfl rfl (fn := 45) rfl (h1) (by (repeat' (first | exact PasC.nil | apply PasC.nil | apply PasC.cons | apply PasV.leaf rfl | apply PasV.nl | apply PasV.bp rfl | apply PasV.lend rfl rfl rfl | apply PasV.lend rfl rfl (ro_B _) | apply PasV.lend rfl rfl (ro_M _) | apply PasV.lend rfl rfl (ro_E _ _) | apply PasV.lend rfl rfl (ro_I _) | apply PasV.mv rfl | apply PasV.ag | apply PasV.fn | exact PasV.fs | apply PasV.any))) (by (first | exact NR.sc | exact NR.ni | exact NR.de | exact nr_B | exact nr_M | exact nr_E | (apply NR.ag; intro a ha; simp only [List.mem_cons, List.not_mem_nil, or_false] at ha; rcases ha with rfl | rfl | rfl | rfl | rfl | rfl | rfl | rfl | rfl | rfl | rfl | rfl <;> first | exact NR.sc | exact NR.ni | exact NR.de | exact nr_B | exact nr_M | exact nr_E))) rfl rfl ?_)
        | fail "no arm")
        all_goals (try simp only [nm, newS, plc, spl, bldA, bldS, zrow, chunks, ZC.val, Nat.reduceAdd, Nat.reduceSub, BEq.rfl])
        refine AP.nil ?_
        exact ⟨rfl, rfl⟩
      · intro h1 h2
        simp [depsOk, Region.binds] at h1 h2
        subst h1
        (repeat (obtain ⟨rfl, h2⟩ := h2))
        (try subst h2)
        clear hcl
        simp only [cond_true, cond_false, setT, List.set_cons_succ, List.set_cons_zero, List.getD_cons_succ, List.getD_cons_zero, List.set_cons_succ]
        (with_reducible apply AP.k_any); first | (refine AP.sm false rfl ?_ ?_; focus ((repeat' (with_reducible apply And.intro)) <;> (first | exact True.intro | exact rfl | omega | (simp; omega) | (simp; done) | assumption | exact .inl rfl | (refine .inr ?_; simp; try omega)))) | fail "no step"
        all_goals (try simp only [nm, newS, plc, spl, bldA, bldS, zrow, chunks, ZC.val, Nat.reduceAdd, Nat.reduceSub, BEq.rfl])
        refine AP.nil ?_
        exact ⟨rfl, rfl⟩
      · intro h1 h2
        simp [depsOk, Region.binds] at h1 h2
        subst h1
        (repeat (obtain ⟨rfl, h2⟩ := h2))
        (try subst h2)
        (first | (obtain rfl : l11 = false := by grind only) | skip)
        clear hcl
        simp only [cond_true, cond_false, setT, List.set_cons_succ, List.set_cons_zero, List.getD_cons_succ, List.getD_cons_zero, List.set_cons_succ]
        (with_reducible apply AP.k_any); first | (refine AP.sm false rfl ?_ ?_; focus ((repeat' (with_reducible apply And.intro)) <;> (first | exact True.intro | exact rfl | omega | (simp; omega) | (simp; done) | assumption | exact .inl rfl | (refine .inr ?_; simp; try omega)))) | (refine AP.el rfl ?_ (by (first | (refine ⟨?_, ?_⟩; assumption; rfl) | exact ⟨mapAt (by (first | omega | (simp; omega) | (simp; done) | assumption)), rfl⟩ | exact ⟨rfl, rfl⟩)) ?_; focus ((repeat' (with_reducible apply And.intro)) <;> (first | exact True.intro | exact rfl | omega | (simp; omega) | (simp; done) | assumption | exact .inl rfl | (refine .inr ?_; simp; try omega)))) | fail "no step"
        all_goals (try simp only [nm, newS, plc, spl, bldA, bldS, zrow, chunks, ZC.val, Nat.reduceAdd, Nat.reduceSub, BEq.rfl])
        refine AP.nil ?_
        exact ⟨rfl, rfl⟩
      · intro h1 h2
        simp [depsOk, Region.binds] at h1 h2
        subst h1
        (repeat (obtain ⟨rfl, h2⟩ := h2))
        (try subst h2)
        clear hcl
        simp only [cond_true, cond_false, setT, List.set_cons_succ, List.set_cons_zero, List.getD_cons_succ, List.getD_cons_zero, List.set_cons_succ]
        (first
        | ((with_reducible apply AP.k_any); refine ap_callX rfl rfl (fn := 56) rfl (h2) (by (repeat' (first | exact PasC.nil | apply PasC.nil | apply PasC.cons | apply PasV.leaf rfl | apply PasV.nl | apply PasV.bp rfl | apply PasV.lend rfl rfl rfl | apply PasV.lend rfl rfl (ro_B _) | apply PasV.lend rfl rfl (ro_M _) | apply PasV.lend rfl rfl (ro_E _ _) | apply PasV.lend rfl rfl (ro_I _) | apply PasV.mv rfl | apply PasV.ag | apply PasV.fn | exact PasV.fs | apply PasV.any))) rfl rfl ?_)
        | fail "no arm")
        all_goals (try simp only [nm, newS, plc, spl, bldA, bldS, zrow, chunks, ZC.val, Nat.reduceAdd, Nat.reduceSub, BEq.rfl])
        refine AP.nil ?_
        exact ⟨rfl, rfl⟩
      · intro h1 h2
        simp [depsOk, Region.binds] at h1 h2
        subst h1
        (repeat (obtain ⟨rfl, h2⟩ := h2))
        (try subst h2)
        (first | (obtain rfl : l6 = true := by grind only) | skip)
        (first | (obtain rfl : l7 = true := by grind only) | skip)
        clear hcl
        simp only [cond_true, cond_false, setT, List.set_cons_succ, List.set_cons_zero, List.getD_cons_succ, List.getD_cons_zero, List.set_cons_succ]
        (first
        | ((with_reducible apply AP.k_any); refine ap_callL rfl rfl (fn := 42) rfl (h3) (by (repeat' (first | exact PasC.nil | apply PasC.nil | apply PasC.cons | apply PasV.leaf rfl | apply PasV.nl | apply PasV.bp rfl | apply PasV.lend rfl rfl rfl | apply PasV.lend rfl rfl (ro_B _) | apply PasV.lend rfl rfl (ro_M _) | apply PasV.lend rfl rfl (ro_E _ _) | apply PasV.lend rfl rfl (ro_I _) | apply PasV.mv rfl | apply PasV.ag | apply PasV.fn | exact PasV.fs | apply PasV.any))) (by (first | exact NR.sc | exact NR.ni | exact NR.de | exact nr_B | exact nr_M | exact nr_E | (apply NR.ag; intro a ha; simp only [List.mem_cons, List.not_mem_nil, or_false] at ha; rcases ha with rfl | rfl | rfl | rfl | rfl | rfl | rfl | rfl | rfl | rfl | rfl | rfl <;> first | exact NR.sc | exact NR.ni | exact NR.de | exact nr_B | exact nr_M | exact nr_E))) rfl rfl ?_)
        | fail "no arm")
        all_goals (try simp only [nm, newS, plc, spl, bldA, bldS, zrow, chunks, ZC.val, Nat.reduceAdd, Nat.reduceSub, BEq.rfl])
        refine AP.nil ?_
        exact ⟨rfl, rfl⟩
      · intro h1 h2
        simp [depsOk, Region.binds] at h1 h2
        subst h1
        (repeat (obtain ⟨rfl, h2⟩ := h2))
        (try subst h2)
        clear hcl
        simp only [cond_true, cond_false, setT, List.set_cons_succ, List.set_cons_zero, List.getD_cons_succ, List.getD_cons_zero, List.set_cons_succ]
        (with_reducible apply AP.k_any); first | (refine AP.sm false rfl ?_ ?_; focus ((repeat' (with_reducible apply And.intro)) <;> (first | exact True.intro | exact rfl | omega | (simp; omega) | (simp; done) | assumption | exact .inl rfl | (refine .inr ?_; simp; try omega)))) | fail "no step"
        all_goals (try simp only [nm, newS, plc, spl, bldA, bldS, zrow, chunks, ZC.val, Nat.reduceAdd, Nat.reduceSub, BEq.rfl])
        refine AP.nil ?_
        exact ⟨rfl, rfl⟩
  repeat' (first
    | ((first
    | ((with_reducible apply AP.k_any); first
             | (refine AP.sm false rfl ?_ ?_; focus ((repeat' (with_reducible apply And.intro)) <;> (first | exact True.intro | exact rfl | omega | (simp; omega) | (simp; done) | assumption | exact .inl rfl | (refine .inr ?_; simp; try omega))))
      )
    
    )
      <;> (try simp only [nm, newS, plc, spl, bldA, bldS, zrow, chunks, ZC.val, Nat.reduceAdd, Nat.reduceSub, BEq.rfl]))
    | ((with_reducible apply AP.k_nil); first
        | (refine AP.nil (hQ' _ ?_); clear hQ' Q')
        | refine AP.nil ?_)
    | ((with_reducible apply CP.k_reg); refine cp_regG fun Q' hQ' => ?_)
      | (with_reducible apply CP.k_reg1; refine cp_region ?_)
      | ((with_reducible apply CP.k_cond); first
          | refine cp_condT rfl ?_
          | refine cp_condF rfl ?_
          | refine cp_cond rfl (fun hc => ?_) (fun hc => ?_))
      | (with_reducible first | refine cp_block ?_ | refine cp_exit ?_ | refine cp_ret ?_ | refine cp_skip ?_ | refine cp_seq ?_ | refine inB_hit ?_ | refine inB_n ?_ | refine inB_r ?_ | refine thenQ_n ?_ | refine thenQ_r ?_ | refine thenQ_e ?_ | refine cpn_succ ?_)
      | (refine inB_miss rfl ?_)
      | (simp only [List.append_eq, List.cons_append, List.nil_append]))
  (apply RetQ.mk2 (ks := []) (by first | exact .inr rfl | exact .inl rfl); (iterate 5 (focus ((repeat' (first | exact RnV.leaf rfl | exact RnC.nil | apply RnC.cons | apply RnV.ag | apply RnV.tu | exact RnV.bp rfl | exact ResL.nil | apply ResL.cons (Res1.row rfl rfl rfl rfl rfl) | apply ResL.cons (Res1.flat rfl rfl rfl rfl rfl) | apply ResL.cons (Res1.tmp (by (try simp only [List.getD_cons_succ, List.getD_cons_zero]); exact rfl)) | exact ClsC.nil | exact ClsL.nil | apply ClsC.nl | apply ClsC.leaf rfl | apply ClsC.hd rfl | apply ClsC.fn | apply ClsR.tu | apply ClsL.cons | apply ClsV.ag | exact ClsV.bp | exact ClsV.one (ClsC.leaf rfl ClsC.nil) | exact ClsV.one (ClsC.nl ClsC.nil) | exact ClsV.one (ClsC.hd rfl ClsC.nil) | apply ClsR.one | exact Out.nil | apply Out.cons rfl | exact hks_of rfl)); done))); (try dsimp only [resV, List.getD_cons_succ, List.getD_cons_zero]); (exact ⟨rfl, rfl⟩))
theorem dentry_ac (e : Entry) (hb : e.body.length ≤ 10000000) : AC Try.prog 15 [.ag (eE none e)] [] (fun v bs' => v = bs (some tU) (entryF e) ∧ bs' = []) := by
  have h1 := (drest_ac e hb).ro (r2 := bs none (restF e)) (by simp only [AV.ro, ro_B])
  have h2 := cat_ac (intS e.pos) (restF e) (by simp [intS_length]) (by simp [restF_length]; omega)
  refine AC.enter Try.func15 rfl rfl Try.ntmps15 (fl1_all rfl) (by (repeat' (first | exact Bk.nil | apply Bk.cons rfl rfl rfl))) ?_
  intro X
  simp only [nm, newS, plc, spl, bldA, bldS, zrow, chunks, ZC.val, Nat.reduceAdd, Nat.reduceSub, BEq.rfl]
  repeat' (first
    | ((first
    | ((with_reducible apply AP.k_any); first
             | (refine AP.sm false rfl ?_ ?_; focus ((repeat' (with_reducible apply And.intro)) <;> (first | exact True.intro | exact rfl | omega | (simp; omega) | (simp; done) | assumption | exact .inl rfl | (refine .inr ?_; simp; try omega))))
      )
    
    )
      <;> (try simp only [nm, newS, plc, spl, bldA, bldS, zrow, chunks, ZC.val, Nat.reduceAdd, Nat.reduceSub, BEq.rfl]))
    | ((with_reducible apply AP.k_nil); first
        | (refine AP.nil (hQ' _ ?_); clear hQ' Q')
        | refine AP.nil ?_)
    | ((with_reducible apply CP.k_reg); refine cp_regG fun Q' hQ' => ?_)
      | (with_reducible apply CP.k_reg1; refine cp_region ?_)
      | ((with_reducible apply CP.k_cond); first
          | refine cp_condT rfl ?_
          | refine cp_condF rfl ?_
          | refine cp_cond rfl (fun hc => ?_) (fun hc => ?_))
      | (with_reducible first | refine cp_block ?_ | refine cp_exit ?_ | refine cp_ret ?_ | refine cp_skip ?_ | refine cp_seq ?_ | refine inB_hit ?_ | refine inB_n ?_ | refine inB_r ?_ | refine thenQ_n ?_ | refine thenQ_r ?_ | refine thenQ_e ?_ | refine cpn_succ ?_)
      | (refine inB_miss rfl ?_)
      | (simp only [List.append_eq, List.cons_append, List.nil_append]))
  refine CP.gh gh_slot ?_; simp only [nm, newS, plc, spl, bldA, bldS, zrow, chunks, ZC.val, Nat.reduceAdd, Nat.reduceSub, BEq.rfl]
  refine cp_drawI (fun zs zb => ⟨setT zs.t [(3, cond (zb.getD 0 false) (.bp 0 1 0) (.tu [])), (4, cond (zb.getD 1 false) (I e.pos) (.tu [])), (5, cond (zb.getD 2 false) (bs none (intS e.pos)) (.tu [])), (6, cond (zb.getD 3 false) (.ag (eE none e)) (.tu [])), (7, cond (zb.getD 4 false) (bs none (restF e)) (.tu [])), (8, cond (zb.getD 5 false) (.hd 1 1) (.tu [])), (2, cond (zb.getD 6 false) (.hd 1 1) (.sc (.slice none 0 0)))], (zs.b.set 1 (cond (zb.getD 5 false) (⟨1, .r tU 1 ((entryF e).map eB)⟩) (zs.b.getD 1 ⟨0, .x⟩)))⟩) (by kernel_rfl) (by kernel_rfl) (by kernel_rfl) ?_ ?_
  rotate_left
  simp only [cond_true, cond_false, setT, List.set_cons_succ, List.set_cons_zero, List.getD_cons_succ, List.getD_cons_zero, List.set_cons_succ, List.length_cons, List.length_nil, List.replicate_succ, List.replicate_zero, Nat.reduceAdd]
  rotate_left
  · intro b hb' hcl
    obtain ⟨l0, b0, rfl, hb0⟩ := len_cons hb'
    obtain ⟨l1, b1, rfl, hb1⟩ := len_cons hb0
    obtain ⟨l2, b2, rfl, hb2⟩ := len_cons hb1
    obtain ⟨l3, b3, rfl, hb3⟩ := len_cons hb2
    obtain ⟨l4, b4, rfl, hb4⟩ := len_cons hb3
    obtain ⟨l5, b5, rfl, hb5⟩ := len_cons hb4
    obtain ⟨l6, b6, rfl, hb6⟩ := len_cons hb5
    obtain rfl := List.length_eq_zero_iff.1 hb6
    clear hb' hb0 hb1 hb2 hb3 hb4 hb5 hb6
    · simp only [closedB, depsOk, Region.binds, List.toList_toArray, List.all_cons, List.all_nil, List.getD_cons_succ, List.getD_cons_zero, Bool.not_true, Bool.not_false, Bool.true_or, Bool.false_or, Bool.and_true, Bool.true_and, Bool.or_true, Bool.and_false, Bool.or_false, Bool.false_and, Bool.and_eq_true, Bool.or_eq_true, Bool.not_eq_true'] at hcl
      simp only [StepsP]
      refine ⟨?_, ?_, ?_, ?_, ?_, ?_, ?_, trivial⟩
      · intro h1 h2
        simp [depsOk, Region.binds] at h1 h2
        subst h1
        (repeat (obtain ⟨rfl, h2⟩ := h2))
        (try subst h2)
        clear hcl
        simp only [cond_true, cond_false, setT, List.set_cons_succ, List.set_cons_zero, List.getD_cons_succ, List.getD_cons_zero, List.set_cons_succ]
        (with_reducible apply AP.k_any); first | (refine AP.sm false rfl ?_ ?_; focus ((repeat' (with_reducible apply And.intro)) <;> (first | exact True.intro | exact rfl | omega | (simp; omega) | (simp; done) | assumption | exact .inl rfl | (refine .inr ?_; simp; try omega)))) | fail "no step"
        all_goals (try simp only [nm, newS, plc, spl, bldA, bldS, zrow, chunks, ZC.val, Nat.reduceAdd, Nat.reduceSub, BEq.rfl])
        refine AP.nil ?_
        exact ⟨rfl, rfl⟩
      · intro h1 h2
        simp [depsOk, Region.binds] at h1 h2
        subst h1
        (repeat (obtain ⟨rfl, h2⟩ := h2))
        (try subst h2)
        (first | (obtain rfl : l5 = false := by grind only) | skip)
        clear hcl
        simp only [cond_true, cond_false, setT, List.set_cons_succ, List.set_cons_zero, List.getD_cons_succ, List.getD_cons_zero, List.set_cons_succ]
        (with_reducible apply AP.k_any); first | (refine AP.sm false rfl ?_ ?_; focus ((repeat' (with_reducible apply And.intro)) <;> (first | exact True.intro | exact rfl | omega | (simp; omega) | (simp; done) | assumption | exact .inl rfl | (refine .inr ?_; simp; try omega)))) | (refine AP.el rfl ?_ (by (first | (refine ⟨?_, ?_⟩; assumption; rfl) | exact ⟨mapAt (by (first | omega | (simp; omega) | (simp; done) | assumption)), rfl⟩ | exact ⟨rfl, rfl⟩)) ?_; focus ((repeat' (with_reducible apply And.intro)) <;> (first | exact True.intro | exact rfl | omega | (simp; omega) | (simp; done) | assumption | exact .inl rfl | (refine .inr ?_; simp; try omega)))) | fail "no step"
        all_goals (try simp only [nm, newS, plc, spl, bldA, bldS, zrow, chunks, ZC.val, Nat.reduceAdd, Nat.reduceSub, BEq.rfl])
        refine AP.nil ?_
        exact ⟨rfl, rfl⟩
      · intro h1 h2
        simp [depsOk, Region.binds] at h1 h2
        subst h1
        (repeat (obtain ⟨rfl, h2⟩ := h2))
        (try subst h2)
        clear hcl
        simp only [cond_true, cond_false, setT, List.set_cons_succ, List.set_cons_zero, List.getD_cons_succ, List.getD_cons_zero, List.set_cons_succ]
        (first
        | ((with_reducible apply AP.k_any); refine ap_callX rfl rfl (fn := 43) rfl (dint_ac e.pos) (by (repeat' (first | exact PasC.nil | apply PasC.nil | apply PasC.cons | apply PasV.leaf rfl | apply PasV.nl | apply PasV.bp rfl | apply PasV.lend rfl rfl rfl | apply PasV.lend rfl rfl (ro_B _) | apply PasV.lend rfl rfl (ro_M _) | apply PasV.lend rfl rfl (ro_E _ _) | apply PasV.lend rfl rfl (ro_I _) | apply PasV.mv rfl | apply PasV.ag | apply PasV.fn | exact PasV.fs | apply PasV.any))) rfl rfl ?_)
        | fail "no arm")
        all_goals (try simp only [nm, newS, plc, spl, bldA, bldS, zrow, chunks, ZC.val, Nat.reduceAdd, Nat.reduceSub, BEq.rfl])
        refine AP.nil ?_
        exact ⟨rfl, rfl⟩
      · intro h1 h2
        simp [depsOk, Region.binds] at h1 h2
        subst h1
        (repeat (obtain ⟨rfl, h2⟩ := h2))
        (try subst h2)
        (first | (obtain rfl : l5 = false := by grind only) | skip)
        clear hcl
        simp only [cond_true, cond_false, setT, List.set_cons_succ, List.set_cons_zero, List.getD_cons_succ, List.getD_cons_zero, List.set_cons_succ]
        (with_reducible apply AP.k_any); first | (refine AP.sm false rfl ?_ ?_; focus ((repeat' (with_reducible apply And.intro)) <;> (first | exact True.intro | exact rfl | omega | (simp; omega) | (simp; done) | assumption | exact .inl rfl | (refine .inr ?_; simp; try omega)))) | (refine AP.el rfl ?_ (by (first | (refine ⟨?_, ?_⟩; assumption; rfl) | exact ⟨mapAt (by (first | omega | (simp; omega) | (simp; done) | assumption)), rfl⟩ | exact ⟨rfl, rfl⟩)) ?_; focus ((repeat' (with_reducible apply And.intro)) <;> (first | exact True.intro | exact rfl | omega | (simp; omega) | (simp; done) | assumption | exact .inl rfl | (refine .inr ?_; simp; try omega)))) | fail "no step"
        all_goals (try simp only [nm, newS, plc, spl, bldA, bldS, zrow, chunks, ZC.val, Nat.reduceAdd, Nat.reduceSub, BEq.rfl])
        refine AP.nil ?_
        exact ⟨rfl, rfl⟩
      · intro h1 h2
        simp [depsOk, Region.binds] at h1 h2
        subst h1
        (repeat (obtain ⟨rfl, h2⟩ := h2))
        (try subst h2)
        clear hcl
        simp only [cond_true, cond_false, setT, List.set_cons_succ, List.set_cons_zero, List.getD_cons_succ, List.getD_cons_zero, List.set_cons_succ]
        (first
        | ((with_reducible apply AP.k_any); refine ap_callX rfl rfl (fn := 44) rfl (h1) (by (repeat' (first | exact PasC.nil | apply PasC.nil | apply PasC.cons | apply PasV.leaf rfl | apply PasV.nl | apply PasV.bp rfl | apply PasV.lend rfl rfl rfl | apply PasV.lend rfl rfl (ro_B _) | apply PasV.lend rfl rfl (ro_M _) | apply PasV.lend rfl rfl (ro_E _ _) | apply PasV.lend rfl rfl (ro_I _) | apply PasV.mv rfl | apply PasV.ag | apply PasV.fn | exact PasV.fs | apply PasV.any))) rfl rfl ?_)
        | fail "no arm")
        all_goals (try simp only [nm, newS, plc, spl, bldA, bldS, zrow, chunks, ZC.val, Nat.reduceAdd, Nat.reduceSub, BEq.rfl])
        refine AP.nil ?_
        exact ⟨rfl, rfl⟩
      · intro h1 h2
        simp [depsOk, Region.binds] at h1 h2
        subst h1
        (repeat (obtain ⟨rfl, h2⟩ := h2))
        (try subst h2)
        clear hcl
        simp only [cond_true, cond_false, setT, List.set_cons_succ, List.set_cons_zero, List.getD_cons_succ, List.getD_cons_zero, List.set_cons_succ]
        (first
        | ((with_reducible apply AP.k_any); refine ap_callX rfl rfl (fn := 42) rfl (h2) (by (repeat' (first | exact PasC.nil | apply PasC.nil | apply PasC.cons | apply PasV.leaf rfl | apply PasV.nl | apply PasV.bp rfl | apply PasV.lend rfl rfl rfl | apply PasV.lend rfl rfl (ro_B _) | apply PasV.lend rfl rfl (ro_M _) | apply PasV.lend rfl rfl (ro_E _ _) | apply PasV.lend rfl rfl (ro_I _) | apply PasV.mv rfl | apply PasV.ag | apply PasV.fn | exact PasV.fs | apply PasV.any))) rfl rfl ?_)
        | fail "no arm")
        all_goals (try simp only [nm, newS, plc, spl, bldA, bldS, zrow, chunks, ZC.val, Nat.reduceAdd, Nat.reduceSub, BEq.rfl])
        refine AP.nil ?_
        exact ⟨rfl, rfl⟩
      · intro h1 h2
        simp [depsOk, Region.binds] at h1 h2
        subst h1
        (repeat (obtain ⟨rfl, h2⟩ := h2))
        (try subst h2)
        clear hcl
        simp only [cond_true, cond_false, setT, List.set_cons_succ, List.set_cons_zero, List.getD_cons_succ, List.getD_cons_zero, List.set_cons_succ]
        (with_reducible apply AP.k_any); first | (refine AP.sm false rfl ?_ ?_; focus ((repeat' (with_reducible apply And.intro)) <;> (first | exact True.intro | exact rfl | omega | (simp; omega) | (simp; done) | assumption | exact .inl rfl | (refine .inr ?_; simp; try omega)))) | fail "no step"
        all_goals (try simp only [nm, newS, plc, spl, bldA, bldS, zrow, chunks, ZC.val, Nat.reduceAdd, Nat.reduceSub, BEq.rfl])
        refine AP.nil ?_
        exact ⟨rfl, rfl⟩
  repeat' (first
    | ((first
    | ((with_reducible apply AP.k_any); first
             | (refine AP.sm false rfl ?_ ?_; focus ((repeat' (with_reducible apply And.intro)) <;> (first | exact True.intro | exact rfl | omega | (simp; omega) | (simp; done) | assumption | exact .inl rfl | (refine .inr ?_; simp; try omega))))
      )
    
    )
      <;> (try simp only [nm, newS, plc, spl, bldA, bldS, zrow, chunks, ZC.val, Nat.reduceAdd, Nat.reduceSub, BEq.rfl]))
    | ((with_reducible apply AP.k_nil); first
        | (refine AP.nil (hQ' _ ?_); clear hQ' Q')
        | refine AP.nil ?_)
    | ((with_reducible apply CP.k_reg); refine cp_regG fun Q' hQ' => ?_)
      | (with_reducible apply CP.k_reg1; refine cp_region ?_)
      | ((with_reducible apply CP.k_cond); first
          | refine cp_condT rfl ?_
          | refine cp_condF rfl ?_
          | refine cp_cond rfl (fun hc => ?_) (fun hc => ?_))
      | (with_reducible first | refine cp_block ?_ | refine cp_exit ?_ | refine cp_ret ?_ | refine cp_skip ?_ | refine cp_seq ?_ | refine inB_hit ?_ | refine inB_n ?_ | refine inB_r ?_ | refine thenQ_n ?_ | refine thenQ_r ?_ | refine thenQ_e ?_ | refine cpn_succ ?_)
      | (refine inB_miss rfl ?_)
      | (simp only [List.append_eq, List.cons_append, List.nil_append]))
  (apply RetQ.mk2 (ks := []) (by first | exact .inr rfl | exact .inl rfl); (iterate 5 (focus ((repeat' (first | exact RnV.leaf rfl | exact RnC.nil | apply RnC.cons | apply RnV.ag | apply RnV.tu | exact RnV.bp rfl | exact ResL.nil | apply ResL.cons (Res1.row rfl rfl rfl rfl rfl) | apply ResL.cons (Res1.flat rfl rfl rfl rfl rfl) | apply ResL.cons (Res1.tmp (by (try simp only [List.getD_cons_succ, List.getD_cons_zero]); exact rfl)) | exact ClsC.nil | exact ClsL.nil | apply ClsC.nl | apply ClsC.leaf rfl | apply ClsC.hd rfl | apply ClsC.fn | apply ClsR.tu | apply ClsL.cons | apply ClsV.ag | exact ClsV.bp | exact ClsV.one (ClsC.leaf rfl ClsC.nil) | exact ClsV.one (ClsC.nl ClsC.nil) | exact ClsV.one (ClsC.hd rfl ClsC.nil) | apply ClsR.one | exact Out.nil | apply Out.cons rfl | exact hks_of rfl)); done))); (try dsimp only [resV, List.getD_cons_succ, List.getD_cons_zero]); (exact ⟨rfl, rfl⟩))
theorem dconfig_ac (c : Config) (hl : c.members.length ≤ 1000000) : AC Try.prog 16 [.ag (eC none c)] [] (fun v bs' => v = bs (some tU) (configF c) ∧ bs' = []) := by
  have h1 := numbers_ac [c.epoch, c.members.length] (by simp)
  refine AC.enter Try.func16 rfl rfl Try.ntmps16 (fl1_all rfl) (by (repeat' (first | exact Bk.nil | apply Bk.cons rfl rfl rfl))) ?_
  intro X
  simp only [nm, newS, plc, spl, bldA, bldS, zrow, chunks, ZC.val, Nat.reduceAdd, Nat.reduceSub, BEq.rfl]
  repeat' (first
    | ((first
    | ((with_reducible apply AP.k_any); first
             | (refine AP.sm false rfl ?_ ?_; focus ((repeat' (with_reducible apply And.intro)) <;> (first | exact True.intro | exact rfl | omega | (simp; omega) | (simp; done) | assumption | exact .inl rfl | (refine .inr ?_; simp; try omega))))
             | (refine AP.el rfl ?_ (by (first | (refine ⟨?_, ?_⟩; assumption; rfl) | exact ⟨mapAt (by (first | omega | (simp; omega) | (simp; done) | assumption)), rfl⟩ | exact ⟨rfl, rfl⟩)) ?_; focus ((repeat' (with_reducible apply And.intro)) <;> (first | exact True.intro | exact rfl | omega | (simp; omega) | (simp; done) | assumption | exact .inl rfl | (refine .inr ?_; simp; try omega))))
             | refine ap_storeE rfl rfl rfl rfl rfl rfl rfl rfl (by (first | (refine ⟨?_, ?_⟩; assumption; rfl) | exact ⟨mapAt (by (first | omega | (simp; omega) | (simp; done) | assumption)), rfl⟩ | exact ⟨rfl, rfl⟩)) (by exact rfl) ?_
      )
    | ((with_reducible apply AP.k_any); refine ap_callL rfl rfl (fn := 45) rfl (h1) (by (repeat' (first | exact PasC.nil | apply PasC.nil | apply PasC.cons | apply PasV.leaf rfl | apply PasV.nl | apply PasV.bp rfl | apply PasV.lend rfl rfl rfl | apply PasV.lend rfl rfl (ro_B _) | apply PasV.lend rfl rfl (ro_M _) | apply PasV.lend rfl rfl (ro_E _ _) | apply PasV.lend rfl rfl (ro_I _) | apply PasV.mv rfl | apply PasV.ag | apply PasV.fn | exact PasV.fs | apply PasV.any))) (by (first | exact NR.sc | exact NR.ni | exact NR.de | exact nr_B | exact nr_M | exact nr_E | (apply NR.ag; intro a ha; simp only [List.mem_cons, List.not_mem_nil, or_false] at ha; rcases ha with rfl | rfl | rfl | rfl | rfl | rfl | rfl | rfl | rfl | rfl | rfl | rfl <;> first | exact NR.sc | exact NR.ni | exact NR.de | exact nr_B | exact nr_M | exact nr_E))) rfl rfl ?_)
    )
      <;> (try simp only [nm, newS, plc, spl, bldA, bldS, zrow, chunks, ZC.val, Nat.reduceAdd, Nat.reduceSub, BEq.rfl]))
    | ((with_reducible apply AP.k_nil); first
        | (refine AP.nil (hQ' _ ?_); clear hQ' Q')
        | refine AP.nil ?_)
    | ((with_reducible apply CP.k_reg); refine cp_regG fun Q' hQ' => ?_)
      | (with_reducible apply CP.k_reg1; refine cp_region ?_)
      | ((with_reducible apply CP.k_cond); first
          | refine cp_condT rfl ?_
          | refine cp_condF rfl ?_
          | refine cp_cond rfl (fun hc => ?_) (fun hc => ?_))
      | (with_reducible first | refine cp_block ?_ | refine cp_exit ?_ | refine cp_ret ?_ | refine cp_skip ?_ | refine cp_seq ?_ | refine inB_hit ?_ | refine inB_n ?_ | refine inB_r ?_ | refine thenQ_n ?_ | refine thenQ_r ?_ | refine thenQ_e ?_ | refine cpn_succ ?_)
      | (refine inB_miss rfl ?_)
      | (simp only [List.append_eq, List.cons_append, List.nil_append]))
  refine CP.gh gh_slot ?_; simp only [nm, newS, plc, spl, bldA, bldS, zrow, chunks, ZC.val, Nat.reduceAdd, Nat.reduceSub, BEq.rfl]
  refine CP.gh gh_slot ?_; simp only [nm, newS, plc, spl, bldA, bldS, zrow, chunks, ZC.val, Nat.reduceAdd, Nat.reduceSub, BEq.rfl]
  have hf : ∀ k, ((c.members.take k).map memF).flatten.length = 17 * (c.members.take k).length := by
    intro k
    generalize c.members.take k = l
    induction l with
    | nil => rfl
    | cons a l ih => simp only [List.map_cons, List.flatten_cons, List.length_append, memF_length, List.length_cons, ih]; omega
  refine cp_loopS [3, 4, 5, 13, 14, 15, 16, 17, 18, 19, 20, 21, 22, 23, 24, 25, 26, 27, 28, 29, 30, 31, 32, 33, 34, 35, 36, 37] (fun a : Nat × Nat × Nat × Nat × Nat => c.members.length - a.1) (fun a => a.1 ≤ c.members.length) (fun a => [(4, I a.1), (3, .hd 2 a.2.1)]) (fun a => [(1, ⟨a.2.2.1, .x⟩), (2, ⟨a.2.1, .r tU 1 ((numS [c.epoch, c.members.length] ++ ((c.members.take a.1).map memF).flatten).map eB)⟩), (3, ⟨a.2.2.2.1, .x⟩), (4, ⟨a.2.2.2.2, .x⟩)]) (0, 1, 1, 0, 0) (Nat.zero_le _) (by (simp only [List.take_zero, List.map_nil, List.flatten_nil, List.append_nil]); (refine gh_wk ?_; (try simp only [setT, deT, setB, List.set_cons_succ, List.set_cons_zero]); (refine ⟨?_, ?_⟩ <;> (try dsimp only) <;> (repeat' (first | exact Wk.nil | exact WkB.nil | apply Wk.same | apply Wk.de | apply Wk.nl | apply WkB.same | apply WkB.drop))))) ?_
  rintro ⟨i, u, v1, v3, v4⟩ hi
  simp only [setT, deT, setB, List.set_cons_succ, List.set_cons_zero]
  dsimp only at hi
  by_cases hlt : i < c.members.length
  · have hw : IntKind.i64.wrap ((i : Int) + 1) = ((i + 1 : Nat) : Int) := wrap_i64 (by omega) (by omega)
    have h2 := numbers_ac [c.members[i].node, c.members[i].since] (by simp)
    have h3 := (dflag_ac c.members[i].whole).ro (r2 := bs none (flagS c.members[i].whole)) (by simp only [AV.ro, ro_B])
    have hn : (numS [c.epoch, (c.members.length : Int)] ++ ((c.members.take i).map memF).flatten).length ≤ 20000000 := by
      rw [List.length_append, hf, numS_length, List.length_take]; simp; omega
    have hstep : numS [c.epoch, (c.members.length : Int)] ++ ((c.members.take (i + 1)).map memF).flatten = numS [c.epoch, (c.members.length : Int)] ++ ((c.members.take i).map memF).flatten ++ numS [c.members[i].node, c.members[i].since] ++ flagS c.members[i].whole := by
      rw [List.take_succ_eq_append_getElem hlt, List.map_append, List.flatten_append]
      simp [memF]
    generalize hA : numS [c.epoch, (c.members.length : Int)] ++ ((c.members.take i).map memF).flatten = A at hn hstep ⊢
    have hl1 : (A.map eB).length + ((numS [c.members[i].node, c.members[i].since]).map eB).length ≤ 1000000000 := by
      rw [List.length_map, List.length_map, numS_length]; simp; omega
    have hl2 : (A.map eB ++ (numS [c.members[i].node, c.members[i].since]).map eB).length + ((flagS c.members[i].whole).map eB).length ≤ 1000000000 := by
      rw [List.length_append, List.length_map, List.length_map, List.length_map, numS_length, flagS_length]; simp; omega
    repeat' (first
      | ((first
      | ((with_reducible apply AP.k_any); first
               | (refine AP.sm false rfl ?_ ?_; focus ((repeat' (with_reducible apply And.intro)) <;> (first | exact True.intro | exact rfl | omega | (simp; omega) | (simp; done) | assumption | exact .inl rfl | (refine .inr ?_; simp; try omega))))
               | (refine AP.el rfl ?_ (by (first | (refine ⟨?_, ?_⟩; assumption; rfl) | exact ⟨mapAt (by (first | omega | (simp; omega) | (simp; done) | assumption)), rfl⟩ | exact ⟨rfl, rfl⟩)) ?_; focus ((repeat' (with_reducible apply And.intro)) <;> (first | exact True.intro | exact rfl | omega | (simp; omega) | (simp; done) | assumption | exact .inl rfl | (refine .inr ?_; simp; try omega))))
               | refine ap_storeE rfl rfl rfl rfl rfl rfl rfl rfl (by (first | (refine ⟨?_, ?_⟩; assumption; rfl) | exact ⟨mapAt (by (first | omega | (simp; omega) | (simp; done) | assumption)), rfl⟩ | exact ⟨rfl, rfl⟩)) (by exact rfl) ?_
        )
      | ((with_reducible apply AP.k_any); refine ap_callL rfl rfl (fn := 45) rfl (h2) (by (repeat' (first | exact PasC.nil | apply PasC.nil | apply PasC.cons | apply PasV.leaf rfl | apply PasV.nl | apply PasV.bp rfl | apply PasV.lend rfl rfl rfl | apply PasV.lend rfl rfl (ro_B _) | apply PasV.lend rfl rfl (ro_M _) | apply PasV.lend rfl rfl (ro_E _ _) | apply PasV.lend rfl rfl (ro_I _) | apply PasV.mv rfl | apply PasV.ag | apply PasV.fn | exact PasV.fs | apply PasV.any))) (by (first | exact NR.sc | exact NR.ni | exact NR.de | exact nr_B | exact nr_M | exact nr_E | (apply NR.ag; intro a ha; simp only [List.mem_cons, List.not_mem_nil, or_false] at ha; rcases ha with rfl | rfl | rfl | rfl | rfl | rfl | rfl | rfl | rfl | rfl | rfl | rfl <;> first | exact NR.sc | exact NR.ni | exact NR.de | exact nr_B | exact nr_M | exact nr_E))) rfl rfl ?_)
        | ((with_reducible apply AP.k_any); refine ap_callX rfl rfl (fn := 46) rfl (h3) (by (repeat' (first | exact PasC.nil | apply PasC.nil | apply PasC.cons | apply PasV.leaf rfl | apply PasV.nl | apply PasV.bp rfl | apply PasV.lend rfl rfl rfl | apply PasV.lend rfl rfl (ro_B _) | apply PasV.lend rfl rfl (ro_M _) | apply PasV.lend rfl rfl (ro_E _ _) | apply PasV.lend rfl rfl (ro_I _) | apply PasV.mv rfl | apply PasV.ag | apply PasV.fn | exact PasV.fs | apply PasV.any))) rfl rfl ?_)
      )
        <;> (try simp only [nm, newS, plc, spl, bldA, bldS, zrow, chunks, ZC.val, Nat.reduceAdd, Nat.reduceSub, BEq.rfl]))
      | ((with_reducible apply AP.k_nil); first
          | (refine AP.nil (hQ' _ ?_); clear hQ' Q')
          | refine AP.nil ?_)
      | ((with_reducible apply CP.k_reg); refine cp_regG fun Q' hQ' => ?_)
        | (with_reducible apply CP.k_reg1; refine cp_region ?_)
        | ((with_reducible apply CP.k_cond); first
            | refine cp_condT rfl ?_
            | refine cp_condF rfl ?_
            | refine cp_cond rfl (fun hc => ?_) (fun hc => ?_))
        | (with_reducible first | refine cp_block ?_ | refine cp_exit ?_ | refine cp_ret ?_ | refine cp_skip ?_ | refine cp_seq ?_ | refine inB_hit ?_ | refine inB_n ?_ | refine inB_r ?_ | refine thenQ_n ?_ | refine thenQ_r ?_ | refine thenQ_e ?_ | refine cpn_succ ?_)
        | (refine inB_miss rfl ?_)
        | (simp only [List.append_eq, List.cons_append, List.nil_append]))
    · simp only [hw]
      refine ⟨(i + 1, u + 1 + 1, v1 + 1, v3 + 1, v4 + 1), by (dsimp only; omega), by (dsimp only; omega), ?_⟩
      dsimp only
      rw [hstep, List.map_append, List.map_append]
      (refine gh_wk ?_; (try simp only [setT, deT, setB, List.set_cons_succ, List.set_cons_zero]); (refine ⟨?_, ?_⟩ <;> (try dsimp only) <;> (repeat' (first | exact Wk.nil | exact WkB.nil | apply Wk.same | apply Wk.de | apply Wk.nl | apply WkB.same | apply WkB.drop))))
    · exfalso; simp at *; omega
  · obtain rfl : i = c.members.length := by omega
    rw [List.take_length]
    repeat' (first
      | ((first
      | ((with_reducible apply AP.k_any); first
               | (refine AP.sm false rfl ?_ ?_; focus ((repeat' (with_reducible apply And.intro)) <;> (first | exact True.intro | exact rfl | omega | (simp; omega) | (simp; done) | assumption | exact .inl rfl | (refine .inr ?_; simp; try omega))))
               | (refine AP.el rfl ?_ (by (first | (refine ⟨?_, ?_⟩; assumption; rfl) | exact ⟨mapAt (by (first | omega | (simp; omega) | (simp; done) | assumption)), rfl⟩ | exact ⟨rfl, rfl⟩)) ?_; focus ((repeat' (with_reducible apply And.intro)) <;> (first | exact True.intro | exact rfl | omega | (simp; omega) | (simp; done) | assumption | exact .inl rfl | (refine .inr ?_; simp; try omega))))
               | refine ap_storeE rfl rfl rfl rfl rfl rfl rfl rfl (by (first | (refine ⟨?_, ?_⟩; assumption; rfl) | exact ⟨mapAt (by (first | omega | (simp; omega) | (simp; done) | assumption)), rfl⟩ | exact ⟨rfl, rfl⟩)) (by exact rfl) ?_
        )
      
      )
        <;> (try simp only [nm, newS, plc, spl, bldA, bldS, zrow, chunks, ZC.val, Nat.reduceAdd, Nat.reduceSub, BEq.rfl]))
      | ((with_reducible apply AP.k_nil); first
          | (refine AP.nil (hQ' _ ?_); clear hQ' Q')
          | refine AP.nil ?_)
      | ((with_reducible apply CP.k_reg); refine cp_regG fun Q' hQ' => ?_)
        | (with_reducible apply CP.k_reg1; refine cp_region ?_)
        | ((with_reducible apply CP.k_cond); first
            | refine cp_condT rfl ?_
            | refine cp_condF rfl ?_
            | refine cp_cond rfl (fun hc => ?_) (fun hc => ?_))
        | (with_reducible first | refine cp_block ?_ | refine cp_exit ?_ | refine cp_ret ?_ | refine cp_skip ?_ | refine cp_seq ?_ | refine inB_hit ?_ | refine inB_n ?_ | refine inB_r ?_ | refine thenQ_n ?_ | refine thenQ_r ?_ | refine thenQ_e ?_ | refine cpn_succ ?_)
        | (refine inB_miss rfl ?_)
        | (simp only [List.append_eq, List.cons_append, List.nil_append]))
    all_goals first
      | (exfalso; simp at *; done)
      | (exfalso; simp at *; omega)
      | (apply RetQ.mk2 (ks := []) (by first | exact .inr rfl | exact .inl rfl); (iterate 5 (focus ((repeat' (first | exact RnV.leaf rfl | exact RnC.nil | apply RnC.cons | apply RnV.ag | apply RnV.tu | exact RnV.bp rfl | exact ResL.nil | apply ResL.cons (Res1.row rfl rfl rfl rfl rfl) | apply ResL.cons (Res1.flat rfl rfl rfl rfl rfl) | apply ResL.cons (Res1.tmp (by (try simp only [List.getD_cons_succ, List.getD_cons_zero]); exact rfl)) | exact ClsC.nil | exact ClsL.nil | apply ClsC.nl | apply ClsC.leaf rfl | apply ClsC.hd rfl | apply ClsC.fn | apply ClsR.tu | apply ClsL.cons | apply ClsV.ag | exact ClsV.bp | exact ClsV.one (ClsC.leaf rfl ClsC.nil) | exact ClsV.one (ClsC.nl ClsC.nil) | exact ClsV.one (ClsC.hd rfl ClsC.nil) | apply ClsR.one | exact Out.nil | apply Out.cons rfl | exact hks_of rfl)); done))); (try dsimp only [resV, List.getD_cons_succ, List.getD_cons_zero]); (exact ⟨rfl, rfl⟩))
end Go.Proofs.Ytpdegeknhapgmaa

namespace Go.Proofs.Ytpdegeknhapgmaa
set_option linter.unusedVariables false
set_option linter.unusedSimpArgs false
open Go.RowKit Go.ChangeShapes Go.WideShapes Go.ChangeAt Go.Deep
set_option maxRecDepth 100000

/-! bulk -/
theorem bulk_one {H : Type} (d : DataW H) : 1 ≤ Rows.uptoBulk d := by
  cases d with
  | lit l => cases l <;> simp [Rows.uptoBulk]
  | _ => simp [Rows.uptoBulk]
theorem bulk_part {H : Type} {d : DataW H} {l : List (DataW H)} (h : d ∈ l) : Rows.uptoBulk d ≤ Rows.uptoBulkAll l := by
  induction l with
  | nil => cases h
  | cons x r ih =>
    simp only [Rows.uptoBulkAll]
    cases List.mem_cons.1 h with
    | inl e => subst e; omega
    | inr e => have := ih e; omega
theorem bulk_length {H : Type} (l : List (DataW H)) : l.length ≤ Rows.uptoBulkAll l := by
  induction l with
  | nil => simp [Rows.uptoBulkAll]
  | cons x r ih => have := bulk_one x; simp only [Rows.uptoBulkAll, List.length_cons]; omega

/-- what reads as data of a type is k cells of my data; N: its bulk -/
def OA (P : Program) (t : TypeId) (k : Nat) {α : Type} (ok : Nat → α → Prop) (e : α → List AV) : Prop :=
  P.cellsOf t = k ∧ (∀ m n d, m ≤ n → ok m d → ok n d) ∧ ∀ {H : Type} {enc : TypeId × Value → H} {w : World} {base : Nat} {fuel : Nat} {cs : List Value} {x : DataW H × List MemPlace},
    DataW.trod enc P w base (fun _ => true) true fuel t cs = some x → ∃ d : α, ok (Rows.uptoBulk x.1) d ∧ (∀ φ κ, RC w φ κ (fun b => b < w.heap.size) (e d) cs Ct.z) ∧ (∀ u ∈ cs, u.oneCell' = true) ∧ (∀ a ∈ e d, a.leaf = true) ∧ cs.length = k
section
variable {P : Program} {t e : TypeId} {α β : Type} {ok : Nat → α → Prop} {k : Nat} {en : α → List AV}
theorem OA.map (h : OA P t k ok en) (f : α → β) {ok' : Nat → β → Prop} {en' : β → List AV} (hm : ∀ m n d, m ≤ n → ok' m d → ok' n d) (h1 : ∀ n a, ok n a → ok' n (f a)) (h2 : ∀ a, en' (f a) = en a) : OA P t k ok' en' :=
  ⟨h.1, hm, fun hx => by
    obtain ⟨d, a, b, c⟩ := h.2.2 hx
    exact ⟨f d, h1 _ _ a, by rw [h2]; exact b, by rw [h2]; exact c⟩⟩
theorem OA.wmap (h : OA P t k ok en) (f : α → β) {ok' : Nat → β → Prop} {en' : β → List AV} (hm : ∀ m n d, m ≤ n → ok' m d → ok' n d) (h1 : ∀ n a, ok n a → ok' n (f a)) (h2 : ∀ n a, ok n a → en' (f a) = en a) : OA P t k ok' en' :=
  ⟨h.1, hm, fun hx => by
    obtain ⟨d, a, b, c⟩ := h.2.2 hx
    exact ⟨f d, h1 _ _ a, by rw [h2 _ _ a]; exact b, by rw [h2 _ _ a]; exact c⟩⟩
theorem RC.one_ {w : World} {φ : Fi} {κ : Ka} {R : Nat → Prop} {a : AV} {v : Value} (h : RV w φ κ R a v Ct.z) : RC w φ κ R [a] [v] Ct.z := .cons (S := Ct.z) (T := Ct.z) h .nil fun _ => rfl
theorem oa_int {κ : IntKind} (ht : P.underlying t = some (.int κ)) (hc : P.cellsOf t = 1) : OA P t 1 (fun _ (n : Int) => (Lit.int κ n).wf = true) (fun n => [.sc (.int κ n)]) :=
  ⟨hc, fun _ _ _ _ h => h, fun h => by
    obtain ⟨n, rfl, _, hw⟩ := DataW.trod_int ht h
    exact ⟨n, hw, fun _ _ => RC.one_ (.sc rfl), fun u hu => by simp at hu; subst hu; rfl, fun a ha => by simp at ha; subst ha; rfl, rfl⟩⟩
theorem oa_bool (ht : P.underlying t = some .bool) (hc : P.cellsOf t = 1) : OA P t 1 (fun _ (_ : Bool) => True) (fun n => [.sc (.bool n)]) :=
  ⟨hc, fun _ _ _ _ h => h, fun h => by
    obtain ⟨n, rfl, _⟩ := DataW.trod_bool ht h
    exact ⟨n, trivial, fun _ _ => RC.one_ (.sc rfl), fun u hu => by simp at hu; subst hu; rfl, fun a ha => by simp at ha; subst ha; rfl, rfl⟩⟩
theorem oa_string (ht : P.underlying t = some .string) (hc : P.cellsOf t = 1) : OA P t 1 (fun m (n : ByteArray) => n.size < m) (fun n => [.sc (.string n)]) :=
  ⟨hc, fun _ _ _ h k => Nat.lt_of_lt_of_le k h, fun h => by
    obtain ⟨n, rfl, rfl, hw⟩ := DataW.trod_string ht h
    exact ⟨n, by (simp [Rows.uptoBulk]), fun _ _ => RC.one_ (.sc rfl), fun u hu => by simp at hu; subst hu; rfl, fun a ha => by simp at ha; subst ha; rfl, rfl⟩⟩
theorem RE.of_rows {w : World} {φ : Fi} {κ : Ka} {R : Nat → Prop} {k : Nat} {en : α → List AV} {l : List α} (css : Nat → List Value) (h : ∀ i x, l[i]? = some x → RC w φ κ R (en x) (css i) Ct.z ∧ (∀ u ∈ css i, u.oneCell' = true) ∧ (∀ a ∈ en x, a.leaf = true) ∧ (css i).length = k) :
    RE w φ κ R k (l.map en) ((List.range l.length).flatMap css) Ct.z := by
  induction l generalizing css with
  | nil => exact .nil
  | cons x l ih =>
    have h0 := h 0 x rfl
    have h1 := ih (fun i => css (i + 1)) fun i y hy => h (i + 1) y (by simpa using hy)
    rw [List.length_cons, List.range_succ_eq_map, List.flatMap_cons, List.flatMap_map]
    exact .cons (S := Ct.z) (T := Ct.z) h0.1 h0.2.2.2 ⟨h0.2.1, h0.2.2.1⟩ h1 fun _ => rfl
theorem flat_at {css : Nat → List Value} {k n : Nat} (h : ∀ i, i < n → (css i).length = k) : ∀ {j : Nat} {u : Value}, ((List.range n).flatMap css)[j]? = some u → ∃ i r, i < n ∧ j = i * k + r ∧ (css i)[r]? = some u := by
  induction n generalizing css with
  | zero => intro j u hj; simp at hj
  | succ n ih =>
    intro j u hj
    rw [List.range_succ_eq_map, List.flatMap_cons, List.flatMap_map] at hj
    have h0 := h 0 (by omega)
    by_cases hjk : j < k
    · rw [List.getElem?_append_left (by omega)] at hj
      exact ⟨0, j, by omega, by omega, hj⟩
    · rw [List.getElem?_append_right (by omega)] at hj
      obtain ⟨i, r, hi, hr, hu⟩ := ih (css := fun i => css (i + 1)) (fun i hi => h (i + 1) (by omega)) hj
      refine ⟨i + 1, r, by omega, ?_, hu⟩
      rw [Nat.add_mul]; omega
theorem spot_none {w : World} {a : Addr} {u : Value} (h : w.cell? (a.add 0) = some u) : a.spot = none := by
  obtain ⟨ab, ao, asp⟩ := a
  cases hsp : asp with
  | none => rfl
  | some s =>
    rw [hsp] at h
    simp [Addr.add, World.cell?] at h
    split at h <;> simp at h
theorem oa_slice (hk : 0 < k) (ht : P.underlying t = some (.slice e)) (hc : P.cellsOf t = 1) (hE : OA P e k ok en) : OA P t 1 (fun N (l : List α) => (∀ x ∈ l, ok N x) ∧ l.length < N) (fun l => [.sl none k (l.map en)]) := by
  refine ⟨hc, fun m n d h k => ⟨fun x hx => hE.2.1 _ _ _ h (k.1 x hx), Nat.lt_of_lt_of_le k.2 h⟩, ?_⟩
  intro H enc w base fuel cs x h
  rcases open_slice ht h with ⟨rfl, rfl⟩ | ⟨a, len, cap, m, n, D, Pl, rfl, hb, hl, hm, hmm, hx, hi⟩
  · exact ⟨[], ⟨fun x hx => by simp at hx, by simp [Rows.uptoBulk]⟩, fun _ _ => RC.one_ .ni, fun u hu => by simp at hu; subst hu; rfl, fun a ha => by simp at ha; subst ha; rfl, rfl⟩
  · obtain rfl : m = cap := by simpa using hmm
    clear hmm
    have hbulk : ∀ i, i < len → Rows.uptoBulk (D i) ≤ Rows.uptoBulk x.1 := by
      intro i hi
      rw [hx]
      have := bulk_part (d := D i) (l := (List.range len).map D) (List.mem_map.2 ⟨i, List.mem_range.2 hi, rfl⟩)
      simp only [Rows.uptoBulk]
      omega
    have hlenb : len < Rows.uptoBulk x.1 := by
      rw [hx]
      have := bulk_length ((List.range len).map D)
      simp only [Rows.uptoBulk]
      simp only [List.length_map, List.length_range] at this
      omega
    have hall : ∀ i, i < len → ∃ (d : α) (cs' : List Value), (ok (Rows.uptoBulk x.1) d ∧ (∀ φ κ, RC w φ κ (fun b => b < w.heap.size) (en d) cs' Ct.z) ∧ (∀ u ∈ cs', u.oneCell' = true) ∧ (∀ a ∈ en d, a.leaf = true) ∧ cs'.length = k) ∧ ∀ j u, cs'[j]? = some u → w.cell? ((a.add (i * k)).add j) = some u := by
      intro i hil
      obtain ⟨cs', hcs, htr⟩ := hi i (by omega)
      obtain ⟨d, hd0, hd⟩ := hE.2.2 htr
      rw [hE.1] at hcs
      obtain ⟨_, hlen, hat⟩ := World.cells?_some hcs
      exact ⟨d, cs', ⟨hE.2.1 _ _ _ (hbulk i hil) hd0, hd⟩, fun j u hu => (hat j (by have := (List.getElem?_eq_some_iff.1 hu).1; omega)).trans hu⟩
    have hsp0 : 0 < m → a.spot = none := by
      intro h0
      obtain ⟨cs', hcs, _⟩ := hi 0 h0
      rw [hE.1] at hcs
      obtain ⟨_, hlen, hat⟩ := World.cells?_some hcs
      have hz := hat 0 (by omega)
      rw [List.getElem?_eq_getElem (by omega)] at hz
      have e0 : a.add (0 * k) = a := by simp [Addr.add]
      rw [e0] at hz
      exact spot_none hz
    have hex : ∃ (l : List α) (css : Nat → List Value), l.length = len ∧ ∀ i y, l[i]? = some y → (ok (Rows.uptoBulk x.1) y ∧ (∀ φ κ, RC w φ κ (fun b => b < w.heap.size) (en y) (css i) Ct.z) ∧ (∀ u ∈ css i, u.oneCell' = true) ∧ (∀ a ∈ en y, a.leaf = true) ∧ (css i).length = k) ∧ ∀ j u, (css i)[j]? = some u → w.cell? ((a.add (i * k)).add j) = some u := by
      clear hi hbulk hlenb h hx
      revert hall
      clear hl
      induction len with
      | zero => exact fun _ => ⟨[], fun _ => [], rfl, fun i x h => by simp at h⟩
      | succ q ih =>
        intro hall
        obtain ⟨l, css, hl, hq⟩ := ih (fun i hi => hall i (by omega))
        obtain ⟨d, cs', hd, hcs⟩ := hall q (by omega)
        refine ⟨l ++ [d], fun i => if i = q then cs' else css i, by simp [hl], fun i x hx => ?_⟩
        by_cases hik : i < q
        · rw [List.getElem?_append_left (by omega)] at hx
          simp only [show i ≠ q by omega, if_false]
          exact hq i x hx
        · have hik' : i = q := by have := (List.getElem?_eq_some_iff.1 hx).1; simp at this; omega
          subst hik'
          rw [List.getElem?_append_right (by omega), hl] at hx
          simp at hx
          subst hx
          simp only [if_true]
          exact ⟨hd, hcs⟩
    obtain ⟨l, css, hll, hq⟩ := hex
    refine ⟨l, ⟨fun y hy => ?_, by omega⟩, fun φ κ => ?_, fun u hu => by simp at hu; subst hu; rfl, fun a ha => by simp at ha; subst ha; rfl, rfl⟩
    · obtain ⟨i, hi, rfl⟩ := List.mem_iff_getElem.1 hy
      exact (hq i _ (List.getElem?_eq_getElem hi)).1.1
    · refine RC.one_ ?_
      subst hll
      by_cases h0 : m = 0
      · subst h0
        obtain rfl : l = [] := List.eq_nil_of_length_eq_zero (by omega)
        exact .ne
      · obtain ⟨ab, ao, asp⟩ := a
        have hspn := hsp0 (by omega)
        simp only at hspn
        subst hspn
        have hflat : ∀ j u, ((List.range l.length).flatMap css)[j]? = some u → w.cell? ⟨ab, ao + j, none⟩ = some u := by
          intro j u hj
          obtain ⟨i, r, hi, rfl, hu⟩ := flat_at (k := k) (fun i hi => (hq i _ (List.getElem?_eq_getElem hi)).1.2.2.2.2) hj
          have := (hq i _ (List.getElem?_eq_getElem hi)).2 r u hu
          have e1 : (Addr.add (Addr.add ⟨ab, ao, none⟩ (i * k)) r) = ⟨ab, ao + (i * k + r), none⟩ := by
            unfold Addr.add
            split <;> split <;> simp_all [Nat.add_assoc]
          rw [e1] at this
          exact this
        have hE' : RE w φ κ (fun b => b < w.heap.size) k (l.map en) ((List.range l.length).flatMap css) Ct.z := RE.of_rows css fun i x hx => ⟨(hq i x hx).1.2.1 φ κ, (hq i x hx).1.2.2⟩
        have := RV.ro (c := m) (b := ab) (o := ao) hE' (by simp; omega) hm (fun hne => by
          have hl0 : 0 < l.length := by cases l with
            | nil => exact absurd rfl hne
            | cons _ _ => simp
          have hc0 := (hq 0 _ (List.getElem?_eq_getElem hl0)).1.2.2.2.2
          have hz := (hq 0 _ (List.getElem?_eq_getElem hl0)).2 0 _ (List.getElem?_eq_getElem (by omega))
          simp only [Addr.add, Nat.zero_mul, if_true, World.cell?] at hz
          cases hh : w.heap[ab]? with
          | none => simp [hh] at hz
          | some o => exact (Array.getElem?_eq_some_iff.1 hh).1) hflat
        simpa using this
/-- fields from an offset on -/
def OFs (P : Program) (fs : List Field) (off k : Nat) {α : Type} (ok : Nat → α → Prop) (e : α → List AV) : Prop :=
  (∀ m n d, m ≤ n → ok m d → ok n d) ∧ ∀ {H : Type} {enc : TypeId × Value → H} {w : World} {base : Nat} {cs : List Value} {N : Nat},
    (∀ f ∈ fs, ∃ n y, DataW.trod enc P w base (fun _ => true) true n f.type ((cs.drop f.offset).take (P.cellsOf f.type)) = some y ∧ Rows.uptoBulk y.1 ≤ N) → off + k ≤ cs.length →
    ∃ d : α, ok N d ∧ (∀ φ κ, RC w φ κ (fun b => b < w.heap.size) (e d) ((cs.drop off).take k) Ct.z) ∧ (∀ u ∈ (cs.drop off).take k, u.oneCell' = true) ∧ (∀ a ∈ e d, a.leaf = true)
theorem of_nil {off : Nat} : OFs P [] off 0 (fun _ (_ : Unit) => True) (fun _ => []) :=
  ⟨fun _ _ _ _ _ => trivial, fun {H enc w base cs N} _ _ => ⟨(), trivial, fun φ κ => by simp; exact .nil, fun u hu => by simp at hu, fun a ha => by cases ha⟩⟩
theorem of_cons {f : Field} {fs : List Field} {off k2 : Nat} {ok2 : Nat → β → Prop} {en2 : β → List AV} (hoff : f.offset = off) (h1 : OA P f.type k ok en) (h2 : OFs P fs (off + k) k2 ok2 en2) :
    OFs P (f :: fs) off (k + k2) (fun N (d : α × β) => ok N d.1 ∧ ok2 N d.2) (fun d => en d.1 ++ en2 d.2) :=
  ⟨fun m n d h k => ⟨h1.2.1 _ _ _ h k.1, h2.1 _ _ _ h k.2⟩, fun {H enc w base cs N} hf hl => by
    subst hoff
    obtain ⟨n, y, hy, hyb⟩ := hf f (by simp)
    rw [h1.1] at hy
    obtain ⟨a, a1, a2, a3, a4, a5⟩ := h1.2.2 hy
    obtain ⟨b, b1, b2, b3, b4⟩ := h2.2 (cs := cs) (N := N) (fun g hg => hf g (by simp [hg])) (by omega)
    have e0 : (cs.drop f.offset).take (k + k2) = (cs.drop f.offset).take k ++ (cs.drop (f.offset + k)).take k2 := by
      rw [List.take_add, List.drop_drop]
    refine ⟨(a, b), ⟨h1.2.1 _ _ _ hyb a1, b1⟩, fun φ κ => ?_, fun u hu => ?_, fun x hx => ?_⟩
    · rw [e0]; exact (a2 φ κ).append (b2 φ κ) fun _ => rfl
    · rw [e0] at hu; exact (List.mem_append.1 hu).elim (a3 u) (b3 u)
    · exact (List.mem_append.1 hx).elim (a4 x) (b4 x)⟩
theorem oa_struct {fs : Array Field} (ht : P.underlying t = some (.struct fs)) (hc : P.cellsOf t = k) (h : OFs P fs.toList 0 k ok en) : OA P t k ok en :=
  ⟨hc, h.1, fun {H enc w base fuel cs x} hx => by
    obtain ⟨xs, n, _, hxx, hl, hn, hg⟩ := DataW.trod_struct ht hx
    obtain ⟨d, d1, d2, d3, d4⟩ := h.2 (cs := cs) (N := Rows.uptoBulk x.1) (fun f hf => by
      obtain ⟨i, hi, rfl⟩ := List.mem_iff_getElem.1 hf
      have hi' : i < fs.size := by simpa using hi
      have := hg i (fs.toList[i]) (by simp [hi'])
      rw [List.getElem?_eq_getElem (by omega)] at this
      refine ⟨n, _, this, ?_⟩
      have hb := bulk_part (d := (xs[i]'(by omega)).1) (l := xs.map (·.1)) (List.mem_map.2 ⟨_, List.getElem_mem _, rfl⟩)
      rw [hxx]
      simp only [Rows.uptoBulk]
      omega) (by omega)
    rw [hc] at hl
    have e0 : (cs.drop 0).take k = cs := by rw [List.drop_zero]; exact List.take_of_length_le (by omega)
    rw [e0] at d2 d3
    exact ⟨d, d1, d2, d3, d4, hl⟩⟩

/-! arguments -/
variable {H : Type} {enc : TypeId × Value → H} {w : World} {base b0 : Nat} {r : Reach} {v : Value} {d : DataW H} {p : List MemPlace}
theorem arg_ag {fs : Array Field} (ht : P.underlying t = some (.struct fs)) (hE : OA P t k ok en) (hv : Value.okWide P w r b0 t v) (h : DataW.Trod enc P w base (fun _ => true) true t v d p) :
    ∃ x, ok (Rows.uptoBulk d) x ∧ ∀ φ κ, RV w φ κ (fun b => b < w.heap.size) (.ag (en x)) v Ct.z := by
  obtain ⟨cs, rfl, _⟩ := okWide_struct ht hv
  obtain ⟨fuel, hf⟩ := h
  obtain ⟨x, x1, x2, x3, _⟩ := hE.2.2 hf
  simp only [Value.cells] at x2 x3
  refine ⟨x, x1, fun φ κ => ?_⟩
  have := RV.ag (x2 φ κ) x3
  simpa using this
theorem arg_1 {f : α → AV} (hE : OA P t 1 ok (fun x => [f x])) (hv : v.cells.toList = [v]) (h : DataW.Trod enc P w base (fun _ => true) true t v d p) :
    ∃ x, ok (Rows.uptoBulk d) x ∧ ∀ φ κ, RV w φ κ (fun b => b < w.heap.size) (f x) v Ct.z := by
  obtain ⟨fuel, hf⟩ := h
  obtain ⟨x, x1, x2, x3, _⟩ := hE.2.2 hf
  refine ⟨x, x1, fun φ κ => ?_⟩
  have h1 := x2 φ κ
  rw [hv] at h1
  cases h1 with
  | cons a b c => obtain ⟨rfl, rfl⟩ := Ct.split c; exact a
theorem cells_slice (ht : P.underlying t = some (.slice e)) (hv : Value.okWide P w r b0 t v) : v.cells.toList = [v] := by
  unfold Value.okWide at hv
  rw [ht] at hv
  cases v with
  | agg cs => simp only [Cell.okWide, ht] at hv; simp [Cell.ok, ht] at hv
  | tuple cs => simp only [Cell.okWide, ht] at hv; simp [Cell.ok, ht] at hv
  | _ => rfl
theorem cells_int {κ : IntKind} (ht : P.underlying t = some (.int κ)) (hv : Value.okWide P w r b0 t v) : v.cells.toList = [v] := by
  unfold Value.okWide at hv
  rw [ht] at hv
  cases v with
  | agg cs => simp only [Cell.okWide, ht] at hv; simp [Cell.ok, ht] at hv
  | tuple cs => simp only [Cell.okWide, ht] at hv; simp [Cell.ok, ht] at hv
  | _ => rfl
theorem cells_bool (ht : P.underlying t = some .bool) (hv : Value.okWide P w r b0 t v) : v.cells.toList = [v] := by
  unfold Value.okWide at hv
  rw [ht] at hv
  cases v with
  | agg cs => simp only [Cell.okWide, ht] at hv; simp [Cell.ok, ht] at hv
  | tuple cs => simp only [Cell.okWide, ht] at hv; simp [Cell.ok, ht] at hv
  | _ => rfl
theorem cells_string (ht : P.underlying t = some .string) (hv : Value.okWide P w r b0 t v) : v.cells.toList = [v] := by
  unfold Value.okWide at hv
  rw [ht] at hv
  cases v with
  | agg cs => simp only [Cell.okWide, ht] at hv; simp [Cell.ok, ht] at hv
  | tuple cs => simp only [Cell.okWide, ht] at hv; simp [Cell.ok, ht] at hv
  | _ => rfl

/-! what was there reads as it did -/
theorem trodAll_below (hl : laidOutB P = true) {W W' : World} (hb : Below W.heap.size W W') :
    ∀ (ts : List TypeId) (vs : List Value) (ds : List (DataW H)) (ps : List MemPlace), (∀ t ∈ ts, P.readableRec t = true ∧ t < P.types.size) → (∀ x ∈ ps, x.block < W.heap.size) →
      DataW.TrodAll enc P W 0 (fun _ => true) true ts vs ds ps → DataW.TrodAll enc P W' 0 (fun b => decide (b < W.heap.size)) true ts vs ds ps
  | [], [], [], ps, _, _, h => h
  | t :: ts, v :: vs, d :: ds, ps, hr, hlt, h => by
    obtain ⟨p, q, hd, hs, rfl⟩ := h
    have hrt := hr t (by simp)
    exact ⟨p, q, Below.trod hl hrt.1 hrt.2 hd hb fun x hx => hlt x (by simp [hx]), trodAll_below hl hb ts vs ds q (fun t ht => hr t (by simp [ht])) (fun x hx => hlt x (by simp [hx])) hs, rfl⟩
  | [], _ :: _, _, _, _, _, h => by simp [DataW.TrodAll] at h
  | [], [], _ :: _, _, _, _, h => by simp [DataW.TrodAll] at h
  | _ :: _, [], _, _, _, _, h => by simp [DataW.TrodAll] at h
  | _ :: _, _ :: _, [], _, _, _, h => by simp [DataW.TrodAll] at h
/-- THE LAST STEP: the law returns true and leaves alone what was there -/
theorem law_post {f : Func} {s : ChangeSpec} {apart fresh handsOn : Bool} {W W' : World} {args : Array Value} {ds gs : List (DataW H)} {before : List MemPlace} {tb : TypeId}
    (hl : laidOutB P = true) (hv : s.vars = []) (hrt : f.resultTypes = #[tb]) (hub : P.underlying tb = some .bool) (hread : (f.params.toList.all fun t => P.readableRec t && decide (t < P.types.size)) = true)
    (hW : DataW.Whole enc P f.params.toList s.vars apart W args.toList ds gs before) (hfn : ∀ gs', gs' = [] → s.fn H (ds ++ gs') = { results := [.lit (.bool true)], args := ds }) (hb : Below W.heap.size W W') :
    s.post enc P f apart fresh handsOn false W args (.bool true) W' := by
  have hread' : ∀ t ∈ f.params.toList, P.readableRec t = true ∧ t < P.types.size := fun t ht => by
    have := List.all_eq_true.1 hread t ht
    simpa using this
  have hW' := hW
  obtain ⟨p, q, hA, hV, rfl, hfz, hnd⟩ := hW
  rw [hv] at hV
  obtain ⟨rfl, rfl⟩ := trodVars_none hV
  have hlt : ∀ x ∈ p, x.block < W.heap.size := fun x hx => hW'.lt x (by simpa using hx)
  refine ⟨ds, [], p ++ [], [], p, [], hW', ?_, ?_, ?_, ?_, fun h => by cases h⟩
  · rw [hfn [] rfl, hrt]
    exact trodAll_mk1 (shut_bool hub true)
  · rw [hfn [] rfl]
    exact trodAll_below hl hb _ _ _ _ hread' hlt hA
  · rw [hv, hfn [] rfl]
    rfl
  · refine World.keptBut_mono (fun x hx => ⟨hx, .inr (.inl (by simpa using hx))⟩) (hb.frame (· ∈ p ++ []))
/-- a contract that tells true, in the world that the law is called in -/
theorem ac_law {fn : Nat} {args : List AV} {vs : List Value} {W : World} (h : AC P fn args [] (fun v bs' => v = .sc (.bool true) ∧ bs' = [])) (ha : ∀ φ κ, RC W φ κ (fun b => b < W.heap.size) args vs Ct.z) :
    Calls P fn vs.toArray W fun e W' => e = .returned (.bool true) ∧ Below W.heap.size W W' := by
  refine (h.2 W (fun _ _ => none) (fun _ _ => none) _ vs [] Ct.z Ct.z (ha _ _) .nil (fun i g hi => by simp at hi) (fun _ _ _ => rfl) (fun _ _ => rfl) (fun x => by simp [Ct.z]) (fun x hx => by simp [Ct.z] at hx) (fun x hx => ⟨hx, rfl⟩)).mono ?_
  rintro e W' ⟨v, r, bs', gs', Sr, Sb', φ', F, rfl, ⟨rfl, rfl⟩, hr, _, _, _, _, _, _, hf⟩
  cases hr with
  | sc => exact ⟨rfl, hf.os, hf.tape, hf.output, hf.size, fun b hb => hf.block b hb rfl⟩
theorem bulk_of {l : List (DataW H)} (hk : Rows.uptoSmall H l = true) : Rows.uptoBulkAll l ≤ 1048576 := of_decide_eq_true hk
end
end Go.Proofs.Ytpdegeknhapgmaa

namespace Go.Proofs.Ytpdegeknhapgmaa
set_option linter.unusedVariables false
set_option linter.unusedSimpArgs false
open Go.RowKit Go.ChangeShapes Go.WideShapes Go.ChangeAt Go.Deep
set_option maxRecDepth 100000
theorem laidOut : laidOutB Try.prog = true := by kernel_rfl
theorem own_knob : ownKnob Try.prog.godebug = none := by kernel_rfl
def I64 (x : Int) : Prop := -9223372036854775808 ≤ x ∧ x ≤ 9223372036854775807
theorem i64_of {x : Int} (h : (Lit.int .i64 x).wf = true) : I64 x := by simpa [Lit.wf, IntKind.min, IntKind.max, IntKind.signed, IntKind.bits, I64] using h
theorem u8_of {x : Int} (h : (Lit.int .u8 x).wf = true) : 0 ≤ x ∧ x ≤ 255 := by simpa [Lit.wf, IntKind.min, IntKind.max, IntKind.signed, IntKind.bits] using h
theorem oi : OA Try.prog 3 1 (fun _ x => I64 x) (fun x => [I x]) := (oa_int Try.underlying3 (by kernel_rfl)).map id (fun _ _ _ _ h => h) (fun _ _ h => i64_of h) fun _ => rfl
theorem obl : OA Try.prog 4 1 (fun _ (_ : Bool) => True) (fun x => [B x]) := oa_bool Try.underlying4 (by kernel_rfl)
theorem ou : OA Try.prog 5 1 (fun _ (_ : UInt8) => True) eB := (oa_int Try.underlying5 (by kernel_rfl)).wmap (fun x : Int => UInt8.ofNat x.toNat) (fun _ _ _ _ h => h) (fun _ _ _ => trivial) fun n x hx => by
  have h := u8_of hx
  have e : ((UInt8.ofNat x.toNat).toNat : Int) = x := by rw [UInt8.toNat_ofNat']; omega
  simp only [eB, U, e]
theorem obs : OA Try.prog 22 1 (fun N (l : List UInt8) => (∀ x ∈ l, True) ∧ l.length < N) (fun l => [bs none l]) := oa_slice (by decide) Try.underlying22 (by kernel_rfl) ou
end Go.Proofs.Ytpdegeknhapgmaa

namespace Go.Proofs.Ytpdegeknhapgmaa
set_option linter.unusedVariables false
set_option linter.unusedSimpArgs false
abbrev Rd := Int × List UInt8
/-- a reader f reads what g writes, of what is ok; and what it reads is so written -/
structure Cod {α : Type} (f : Rd → α × Rd) (g : α → List UInt8) (ok : α → Prop) : Prop where
  fwd : ∀ a rest, ok a → f (0, g a ++ rest) = (a, (0, rest))
  bwd : ∀ st, (f st).2.1 = 0 → st.2 = g (f st).1 ++ (f st).2.2 ∧ ok (f st).1
  stk : ∀ st, st.1 ≠ 0 → (f st).2.1 ≠ 0
theorem Cod.zero {α : Type} {f : Rd → α × Rd} {g : α → List UInt8} {ok : α → Prop} (h : Cod f g ok) {st : Rd} (h0 : (f st).2.1 = 0) : st.1 = 0 := by
  by_cases h1 : st.1 = 0
  · exact h1
  · exact absurd h0 (h.stk st h1)
theorem foldl_be (l : List UInt8) : ∀ x : Nat, l.foldl (fun x c => 256 * x + c.toNat) x = x * 256 ^ l.length + beN l := by
  induction l with
  | nil => intro x; simp [beN]
  | cons c l ih =>
    intro x
    have h0 := ih (256 * 0 + c.toNat)
    rw [List.foldl_cons, ih]
    unfold beN at *
    rw [List.foldl_cons, h0, List.length_cons, Nat.pow_succ]
    rw [Nat.add_mul, Nat.mul_zero, Nat.zero_add]
    have : 256 * x * 256 ^ l.length = x * (256 ^ l.length * 256) := by rw [Nat.mul_comm 256 x, Nat.mul_assoc, Nat.mul_comm 256]
    omega
theorem beN_cons (y : UInt8) (b : List UInt8) : beN (y :: b) = y.toNat * 256 ^ b.length + beN b := by
  have := foldl_be b y.toNat
  simp only [beN, List.foldl_cons] at *
  rw [Nat.mul_zero, Nat.zero_add]; exact this
theorem putS_mod (c x m : Nat) : ∀ n, n ≤ m → putS (c * 256 ^ m + x) n = putS x n
  | 0, _ => rfl
  | n + 1, h => by
    rw [putS, putS, putS_mod c x m n (by omega)]
    congr 2
    have hm : c * 256 ^ m = 256 ^ n * (256 * (c * 256 ^ (m - n - 1))) := by
      have h1 : 256 ^ m = 256 ^ n * (256 * 256 ^ (m - n - 1)) := by rw [← Nat.pow_succ', ← Nat.pow_add]; congr 1; omega
      rw [h1, Nat.mul_left_comm, Nat.mul_left_comm c 256]
    rw [hm, Nat.mul_add_div (Nat.pow_pos (by omega)), Nat.mul_add_mod]
theorem putS_beN : ∀ {n : Nat} {b : List UInt8}, b.length = n → putS (beN b) n = b
  | 0, b, h => by rw [List.length_eq_zero_iff.1 h]; rfl
  | n + 1, [], h => by simp at h
  | n + 1, y :: b, h => by
    have hb : b.length = n := by simpa using h
    have hlt := beN_lt b
    rw [hb] at hlt
    rw [beN_cons, hb, putS, putS_mod _ _ _ n (Nat.le_refl _), putS_beN hb]
    congr 1
    rw [Nat.mul_comm, Nat.mul_add_div (Nat.pow_pos (by omega)), Nat.div_eq_of_lt hlt, Nat.add_zero, Nat.mod_eq_of_lt y.toNat_lt]
    simp
theorem beN_putS (x : Nat) : ∀ n, beN (putS x n) = x % 256 ^ n
  | 0 => by simp [putS, beN, Nat.mod_one]
  | n + 1 => by
    rw [putS, beN_cons, putS_length, beN_putS x n]
    have : (UInt8.ofNat (x / 256 ^ n % 256)).toNat = x / 256 ^ n % 256 := by simp
    rw [this, Nat.pow_succ, Nat.mod_mul, Nat.mul_comm, Nat.add_comm]
theorem toI_u (n : Int) (h : I64 n) : toI (IntKind.u64.wrap n).toNat = n := by
  unfold I64 at h
  simp [toI, IntKind.wrap, IntKind.bits, IntKind.signed]; omega
theorem toI_in (x : Nat) : I64 (toI x) := by
  simp [toI, I64, IntKind.wrap, IntKind.bits, IntKind.signed]; omega
theorem intS_toI (x : Nat) (h : x < 2 ^ 64) : intS (toI x) = putS x 8 := by
  have : (IntKind.u64.wrap (toI x)).toNat = x := by simp [toI, IntKind.wrap, IntKind.bits, IntKind.signed]; omega
  rw [intS, this]
theorem beN_intS (n : Int) : beN (intS n) = (IntKind.u64.wrap n).toNat := by
  rw [intS, beN_putS, Nat.mod_eq_of_lt]
  have := wrap_u64_lt n
  simpa using this
/-- readers of so many bytes -/
theorem takeS_zero {α : Type} {z : α} {f : List UInt8 → α × Bool} {n : Nat} {st : Rd} (h : (takeS z f n st).2.1 = 0) :
    st.1 = 0 ∧ n ≤ st.2.length ∧ (f (st.2.take n)).2 = true ∧ takeS z f n st = ((f (st.2.take n)).1, (0, st.2.drop n)) := by
  unfold takeS at h ⊢
  split at h
  · rename_i h0; exact absurd h h0
  · rename_i h0
    split at h
    · simp at h
    · rename_i h1
      split at h
      · rename_i h2
        simp only [Int.toNat_natCast] at h2
        rw [if_neg h0, if_neg h1]
        simp only [Int.toNat_natCast]
        rw [if_pos h2]
        exact ⟨by simpa using h0, by omega, h2, rfl⟩
      · simp at h
theorem takeS_fwd {α : Type} {z : α} {f : List UInt8 → α × Bool} {n : Nat} {b rest : List UInt8} (hb : b.length = n) (hf : (f b).2 = true) : takeS z f n (0, b ++ rest) = ((f b).1, (0, rest)) := by
  subst hb
  unfold takeS
  rw [if_neg (by simp), if_neg (by simp; omega)]
  simp [hf]
theorem takeS_stk {α : Type} {z : α} {f : List UInt8 → α × Bool} {n : Int} {st : Rd} (h : st.1 ≠ 0) : (takeS z f n st).2.1 ≠ 0 := by
  unfold takeS; rw [if_pos h]; exact h
theorem cod_int : Cod intR intS I64 where
  fwd a rest h := by
    unfold intR
    have := takeS_fwd (z := (0 : Int)) (f := intG) (n := 8) (b := intS a) (rest := rest) (intS_length a) rfl
    rw [show ((8 : Nat) : Int) = 8 from rfl] at this
    rw [this, intG, beN_intS, toI_u a h]
  bwd st h := by
    obtain ⟨h1, h2, h3, h4⟩ := takeS_zero (n := 8) (f := intG) (z := (0 : Int)) (st := st) h
    have e : intR st = (toI (beN (st.2.take 8)), (0, st.2.drop 8)) := h4
    have hl : (st.2.take 8).length = 8 := by simp; omega
    rw [e]
    refine ⟨?_, toI_in _⟩
    have hlt := beN_lt (st.2.take 8)
    rw [hl] at hlt
    dsimp only
    rw [intS_toI _ (by simpa using hlt), putS_beN hl, List.take_append_drop]
  stk st h := takeS_stk h
theorem len1' {b : List UInt8} (h : b.length = 1) : b = [b.headD 0] := by
  match b, h with
  | [x], _ => rfl
theorem cod_byte : Cod byteR (fun x => [x]) (fun _ => True) where
  fwd a rest _ := takeS_fwd (z := (0 : UInt8)) (f := byteG) (n := 1) (b := [a]) (rest := rest) rfl rfl
  bwd st h := by
    obtain ⟨h1, h2, h3, h4⟩ := takeS_zero (n := 1) (f := byteG) (z := (0 : UInt8)) (st := st) h
    have e : byteR st = ((st.2.take 1).headD 0, (0, st.2.drop 1)) := h4
    have hl : (st.2.take 1).length = 1 := by simp; omega
    rw [e]
    refine ⟨?_, trivial⟩
    dsimp only
    rw [← len1' hl, List.take_append_drop]
  stk st h := takeS_stk h
theorem cod_flag : Cod flagR flagS (fun _ => True) where
  fwd a rest _ := by
    cases a with
    | true => exact takeS_fwd (z := false) (f := flagG) (n := 1) (b := [1]) (rest := rest) rfl rfl
    | false => exact takeS_fwd (z := false) (f := flagG) (n := 1) (b := [0]) (rest := rest) rfl rfl
  bwd st h := by
    obtain ⟨h1, h2, h3, h4⟩ := takeS_zero (n := 1) (f := flagG) (z := false) (st := st) h
    have e : flagR st = ((st.2.take 1).headD 0 == 1, (0, st.2.drop 1)) := h4
    have hl : (st.2.take 1).length = 1 := by simp; omega
    rw [e]
    refine ⟨?_, trivial⟩
    dsimp only
    have h5 := len1' hl
    generalize (st.2.take 1).headD 0 = x at h5 h3
    have h6 : st.2 = [x] ++ st.2.drop 1 := by rw [← h5, List.take_append_drop]
    have hx : x = 0 ∨ x = 1 := by
      simp only [flagG, h5, List.headD_cons, decide_eq_true_eq, UInt8.le_iff_toNat_le] at h3
      have h3' : x.toNat ≤ 1 := h3
      rcases (by omega : x.toNat = 0 ∨ x.toNat = 1) with h | h
      · exact .inl (UInt8.toNat_inj.1 (by simpa using h))
      · exact .inr (UInt8.toNat_inj.1 (by simpa using h))
    rcases hx with rfl | rfl
    · exact h6
    · exact h6
  stk st h := takeS_stk h
def bytesF' (b : List UInt8) : List UInt8 := putS b.length 4 ++ b
theorem cod_bytes : Cod bytesR bytesF' (fun b => b.length ≤ 65536) where
  fwd a rest h := by
    have hn : beN (putS a.length 4) = a.length := by rw [beN_putS, Nat.mod_eq_of_lt]; simp; omega
    have e1 : lenR (0, putS a.length 4 ++ (a ++ rest)) = ((a.length : Int), (0, a ++ rest)) := by
      have := takeS_fwd (z := (0 : Int)) (f := lenG) (n := 4) (b := putS a.length 4) (rest := a ++ rest) (putS_length _ _) (by simp [lenG, hn]; exact h)
      rw [show ((4 : Nat) : Int) = 4 from rfl] at this
      rw [lenR, this, lenG, hn]
    unfold bytesR bytesF'
    rw [List.append_assoc, e1]
    exact takeS_fwd (z := ([] : List UInt8)) (f := bytesG) (n := a.length) (b := a) (rest := rest) rfl rfl
  bwd st h := by
    have hz : (lenR st).2.1 = 0 := by
      by_cases h0 : (lenR st).2.1 = 0
      · exact h0
      · exact absurd h (takeS_stk h0)
    obtain ⟨h1, h2, h3, h4⟩ := takeS_zero (n := 4) (f := lenG) (z := (0 : Int)) (st := st) hz
    have e : lenR st = ((beN (st.2.take 4) : Int), (0, st.2.drop 4)) := h4
    have hl : (st.2.take 4).length = 4 := by simp; omega
    have hle : beN (st.2.take 4) ≤ 65536 := by simpa [lenG] using h3
    unfold bytesR at h ⊢
    rw [e] at h ⊢
    obtain ⟨g1, g2, g3, g4⟩ := takeS_zero (n := beN (st.2.take 4)) (f := bytesG) (z := ([] : List UInt8)) (st := (0, st.2.drop 4)) h
    dsimp only at g2 g4 ⊢
    rw [g4]
    dsimp only [bytesG, bytesF']
    have hll : ((st.2.drop 4).take (beN (st.2.take 4))).length = beN (st.2.take 4) := by rw [List.length_take]; omega
    rw [hll, putS_beN hl, List.append_assoc, List.take_append_drop, List.take_append_drop]
    exact ⟨rfl, hle⟩
  stk st h := by
    unfold bytesR
    exact takeS_stk (takeS_stk h)
/-- one behind the other -/
theorem Cod.seq {α β : Type} {f : Rd → α × Rd} {g : α → List UInt8} {ok : α → Prop} {f2 : α → Rd → β × Rd} {g2 : α → β → List UInt8} {ok2 : α → β → Prop} (h : Cod f g ok) (h2 : ∀ a, ok a → Cod (f2 a) (g2 a) (ok2 a)) (hs : ∀ a st, st.1 ≠ 0 → (f2 a st).2.1 ≠ 0) :
    Cod (fun st => (((f st).1, (f2 (f st).1 (f st).2).1), (f2 (f st).1 (f st).2).2)) (fun x => g x.1 ++ g2 x.1 x.2) (fun x => ok x.1 ∧ ok2 x.1 x.2) where
  fwd a rest hk := by
    rw [List.append_assoc, h.fwd _ _ hk.1]
    dsimp only
    rw [(h2 _ hk.1).fwd _ _ hk.2]
  bwd st h0 := by
    dsimp only at h0 ⊢
    have hz : (f st).2.1 = 0 := by
      by_cases h1 : (f st).2.1 = 0
      · exact h1
      · exact absurd h0 (hs _ _ h1)
    obtain ⟨a1, a2⟩ := h.bwd st hz
    obtain ⟨b1, b2⟩ := (h2 _ a2).bwd _ h0
    exact ⟨by rw [a1, List.append_assoc]; congr 1, a2, b2⟩
  stk st h0 := hs _ _ (h.stk st h0)
/-- the same under other names -/
theorem Cod.iso {α β : Type} {f : Rd → α × Rd} {g : α → List UInt8} {ok : α → Prop} (h : Cod f g ok) (t : α → β) (u : β → α) {f' : Rd → β × Rd} {g' : β → List UInt8} {ok' : β → Prop}
    (hf : ∀ st, f' st = (t (f st).1, (f st).2)) (hg : ∀ b, ok' b → g' b = g (u b)) (hok : ∀ b, ok' b → ok (u b) ∧ t (u b) = b) (hok' : ∀ a, ok a → ok' (t a) ∧ u (t a) = a) : Cod f' g' ok' where
  fwd b rest hb := by
    rw [hf, hg b hb, h.fwd _ _ (hok b hb).1]
    dsimp only
    rw [(hok b hb).2]
  bwd st h0 := by
    rw [hf] at h0 ⊢
    obtain ⟨a1, a2⟩ := h.bwd st h0
    have := hok' _ a2
    exact ⟨by dsimp only; rw [hg _ this.1, this.2]; exact a1, this.1⟩
  stk st h0 := by rw [hf]; exact h.stk st h0
end Go.Proofs.Ytpdegeknhapgmaa

namespace Go.Proofs.Ytpdegeknhapgmaa
set_option linter.unusedVariables false
set_option linter.unusedSimpArgs false
set_option maxHeartbeats 8000000
open Go.RowKit
set_option maxRecDepth 100000
def clientS (who id : Int) : Bool := decide (0 ≤ who) && decide (who < 4) && decide (1 ≤ id)
def mayE (e : Entry) : Bool := decide (1 ≤ e.pos) && decide (0 ≤ e.stamp) && clientS e.client e.id && decide (e.body.length ≤ 1024)
def allG (p : Nat → Member → Bool) : Nat → List Member → Bool
  | _, [] => true
  | k, m :: l => p k m && allG p (k + 1) l
theorem client_ac (who id : Int) : AC Try.prog 47 [I who, I id] [] (fun v bs => v = B (clientS who id) ∧ bs = []) := by
  refine AC.enter Try.func47 rfl rfl Try.ntmps47 (fl1_all rfl) (by (repeat' (first | exact Bk.nil | apply Bk.cons rfl rfl rfl))) ?_
  intro X
  simp only [nm, newS, plc, spl, bldA, bldS, zrow, chunks, ZC.val, Nat.reduceAdd, Nat.reduceSub, BEq.rfl]
  repeat' (first
    | ((first
    | ((with_reducible apply AP.k_any); first
             | (refine AP.sm false rfl ?_ ?_; focus ((repeat' (with_reducible apply And.intro)) <;> (first | exact True.intro | exact rfl | omega | (simp; omega) | (simp; done) | assumption | exact .inl rfl | (refine .inr ?_; simp; try omega))))
             | (refine AP.gyes rfl rfl rfl ?_; dsimp only) | (refine AP.gsplit rfl rfl rfl (fun hg => ?_) (fun hg => ?_))
      )
    
    
    )
      <;> (try simp only [nm, newS, plc, spl, bldA, bldS, zrow, chunks, ZC.val, Nat.reduceAdd, Nat.reduceSub, BEq.rfl]))
    | ((with_reducible apply AP.k_nil); first
        | (refine AP.nil (hQ' _ ?_); clear hQ' Q')
        | refine AP.nil ?_)
    | ((with_reducible apply CP.k_reg); refine cp_regG fun Q' hQ' => ?_)
      | (with_reducible apply CP.k_reg1; refine cp_region ?_)
      | ((with_reducible apply CP.k_cond); first
          | refine cp_condT rfl ?_
          | refine cp_condF rfl ?_
          | refine cp_cond rfl (fun hc => ?_) (fun hc => ?_))
      | (with_reducible first | refine cp_block ?_ | refine cp_exit ?_ | refine cp_ret ?_ | refine cp_skip ?_ | refine cp_seq ?_ | refine inB_hit ?_ | refine inB_n ?_ | refine inB_r ?_ | refine thenQ_n ?_ | refine thenQ_r ?_ | refine thenQ_e ?_ | refine cpn_succ ?_)
      | (refine inB_miss rfl ?_)
      | (simp only [List.append_eq, List.cons_append, List.nil_append]))
  all_goals (apply RetQ.mk2 (ks := []) (by first | exact .inr rfl | exact .inl rfl); (iterate 5 (focus ((repeat' (first | exact RnV.leaf rfl | exact RnC.nil | apply RnC.cons | apply RnV.ag | apply RnV.tu | exact RnV.bp rfl | exact ResL.nil | apply ResL.cons (Res1.row rfl rfl rfl rfl rfl) | apply ResL.cons (Res1.flat rfl rfl rfl rfl rfl) | apply ResL.cons (Res1.tmp (by (try simp only [List.getD_cons_succ, List.getD_cons_zero]); exact rfl)) | exact ClsC.nil | exact ClsL.nil | apply ClsC.nl | apply ClsC.leaf rfl | apply ClsC.hd rfl | apply ClsC.fn | apply ClsR.tu | apply ClsL.cons | apply ClsV.ag | exact ClsV.bp | exact ClsV.one (ClsC.leaf rfl ClsC.nil) | exact ClsV.one (ClsC.nl ClsC.nil) | exact ClsV.one (ClsC.hd rfl ClsC.nil) | apply ClsR.one | exact Out.nil | apply Out.cons rfl | exact hks_of rfl)); done))); (try dsimp only [resV, List.getD_cons_succ, List.getD_cons_zero]); ((refine ⟨?_, rfl⟩; simp at *; simp [clientS]; try omega)))
theorem mayEntry_ac (e : Entry) : AC Try.prog 17 [.ag (eE none e)] [] (fun v bs => v = B (mayE e) ∧ bs = []) := by
  refine AC.enter Try.func17 rfl rfl Try.ntmps17 (fl1_all rfl) (by (repeat' (first | exact Bk.nil | apply Bk.cons rfl rfl rfl))) ?_
  intro X
  simp only [nm, newS, plc, spl, bldA, bldS, zrow, chunks, ZC.val, Nat.reduceAdd, Nat.reduceSub, BEq.rfl]
  repeat' (first
    | ((first
    | ((with_reducible apply AP.k_any); first
             | (refine AP.sm false rfl ?_ ?_; focus ((repeat' (with_reducible apply And.intro)) <;> (first | exact True.intro | exact rfl | omega | (simp; omega) | (simp; done) | assumption | exact .inl rfl | (refine .inr ?_; simp; try omega))))
             | (refine AP.gyes rfl rfl rfl ?_; dsimp only) | (refine AP.gsplit rfl rfl rfl (fun hg => ?_) (fun hg => ?_))
      )
    | ((with_reducible apply AP.k_any); refine ap_callX rfl rfl (fn := 47) rfl (client_ac _ _) (by (repeat' (first | exact PasC.nil | apply PasC.nil | apply PasC.cons | apply PasV.leaf rfl | apply PasV.nl | apply PasV.bp rfl | apply PasV.lend rfl rfl rfl | apply PasV.lend rfl rfl (ro_B _) | apply PasV.lend rfl rfl (ro_M _) | apply PasV.lend rfl rfl (ro_E _ _) | apply PasV.lend rfl rfl (ro_I _) | apply PasV.mv rfl | apply PasV.ag | apply PasV.fn | exact PasV.fs | apply PasV.any))) rfl rfl ?_)
    
    | ((with_reducible apply AQ.k_any); refine AQ.pure rfl (pq_call (fn := 47) rfl rfl (client_ac _ _) rfl rfl (by (repeat' (first | exact PasC.nil | apply PasC.nil | apply PasC.cons | apply PasV.leaf rfl | apply PasV.nl | apply PasV.bp rfl | apply PasV.lend rfl rfl rfl | apply PasV.lend rfl rfl (ro_B _) | apply PasV.lend rfl rfl (ro_M _) | apply PasV.lend rfl rfl (ro_E _ _) | apply PasV.lend rfl rfl (ro_I _) | apply PasV.mv rfl | apply PasV.ag | apply PasV.fn | exact PasV.fs | apply PasV.any)))) ?_))
      <;> (try simp only [nm, newS, plc, spl, bldA, bldS, zrow, chunks, ZC.val, Nat.reduceAdd, Nat.reduceSub, BEq.rfl]))
    | ((with_reducible apply AP.k_nil); first
        | (refine AP.nil (hQ' _ ?_); clear hQ' Q')
        | refine AP.nil ?_)
    | ((with_reducible apply CP.k_reg); refine cp_regG fun Q' hQ' => ?_)
      | (with_reducible apply CP.k_reg1; refine cp_region ?_)
      | ((with_reducible apply CP.k_cond); first
          | refine cp_condT rfl ?_
          | refine cp_condF rfl ?_
          | refine cp_cond rfl (fun hc => ?_) (fun hc => ?_))
      | (with_reducible first | refine cp_block ?_ | refine cp_exit ?_ | refine cp_ret ?_ | refine cp_skip ?_ | refine cp_seq ?_ | refine inB_hit ?_ | refine inB_n ?_ | refine inB_r ?_ | refine thenQ_n ?_ | refine thenQ_r ?_ | refine thenQ_e ?_ | refine cpn_succ ?_)
      | (refine inB_miss rfl ?_)
      | (simp only [List.append_eq, List.cons_append, List.nil_append]))
  all_goals (apply RetQ.mk2 (ks := []) (by first | exact .inr rfl | exact .inl rfl); (iterate 5 (focus ((repeat' (first | exact RnV.leaf rfl | exact RnC.nil | apply RnC.cons | apply RnV.ag | apply RnV.tu | exact RnV.bp rfl | exact ResL.nil | apply ResL.cons (Res1.row rfl rfl rfl rfl rfl) | apply ResL.cons (Res1.flat rfl rfl rfl rfl rfl) | apply ResL.cons (Res1.tmp (by (try simp only [List.getD_cons_succ, List.getD_cons_zero]); exact rfl)) | exact ClsC.nil | exact ClsL.nil | apply ClsC.nl | apply ClsC.leaf rfl | apply ClsC.hd rfl | apply ClsC.fn | apply ClsR.tu | apply ClsL.cons | apply ClsV.ag | exact ClsV.bp | exact ClsV.one (ClsC.leaf rfl ClsC.nil) | exact ClsV.one (ClsC.nl ClsC.nil) | exact ClsV.one (ClsC.hd rfl ClsC.nil) | apply ClsR.one | exact Out.nil | apply Out.cons rfl | exact hks_of rfl)); done))); (try dsimp only [resV, List.getD_cons_succ, List.getD_cons_zero]); ((refine ⟨?_, rfl⟩; simp at *; simp [mayE, *]; try omega)))
theorem all1_ac (f : Nat) (c : Config) (p : Nat → Member → Bool) (l : List Member) (hl : l.length ≤ 100000000) (hf : ∀ (i : Nat) (h : i < l.length), AC Try.prog f [I i, .ag (eM l[i]), .bp 0 0 0] [.c 27 (eC none c)] (fun v bs => v = B (p i l[i]) ∧ bs = [.c 27 (eC none c)])) :
    AC Try.prog 49 [ms none l, .fn f [.bp 0 0 0]] [.c 27 (eC none c)] (fun v bs => v = B (allG p 0 l) ∧ bs = [.c 27 (eC none c)]) := by
  refine AC.enter Try.func49 rfl rfl Try.ntmps49 (fl1_all rfl) (by (repeat' (first | exact Bk.nil | apply Bk.cons rfl rfl rfl))) ?_
  intro X
  simp only [nm, newS, plc, spl, bldA, bldS, zrow, chunks, ZC.val, Nat.reduceAdd, Nat.reduceSub, BEq.rfl]
  repeat' (first
    | ((first
    | ((with_reducible apply AP.k_any); first
             | (refine AP.sm false rfl ?_ ?_; focus ((repeat' (with_reducible apply And.intro)) <;> (first | exact True.intro | exact rfl | omega | (simp; omega) | (simp; done) | assumption | exact .inl rfl | (refine .inr ?_; simp; try omega))))
             | (refine AP.el rfl ?_ (by (first | (refine ⟨?_, ?_⟩; assumption; rfl) | exact ⟨mapAt (by (first | omega | (simp; omega) | (simp; done) | assumption)), rfl⟩ | exact ⟨rfl, rfl⟩)) ?_; focus ((repeat' (with_reducible apply And.intro)) <;> (first | exact True.intro | exact rfl | omega | (simp; omega) | (simp; done) | assumption | exact .inl rfl | (refine .inr ?_; simp; try omega))))
             | refine ap_storeE rfl rfl rfl rfl rfl rfl rfl rfl (by (first | (refine ⟨?_, ?_⟩; assumption; rfl) | exact ⟨mapAt (by (first | omega | (simp; omega) | (simp; done) | assumption)), rfl⟩ | exact ⟨rfl, rfl⟩)) (by exact rfl) ?_
      )
    
    )
      <;> (try simp only [nm, newS, plc, spl, bldA, bldS, zrow, chunks, ZC.val, Nat.reduceAdd, Nat.reduceSub, BEq.rfl]))
    | ((with_reducible apply AP.k_nil); first
        | (refine AP.nil (hQ' _ ?_); clear hQ' Q')
        | refine AP.nil ?_)
    | ((with_reducible apply CP.k_reg); refine cp_regG fun Q' hQ' => ?_)
      | (with_reducible apply CP.k_reg1; refine cp_region ?_)
      | ((with_reducible apply CP.k_cond); first
          | refine cp_condT rfl ?_
          | refine cp_condF rfl ?_
          | refine cp_cond rfl (fun hc => ?_) (fun hc => ?_))
      | (with_reducible first | refine cp_block ?_ | refine cp_exit ?_ | refine cp_ret ?_ | refine cp_skip ?_ | refine cp_seq ?_ | refine inB_hit ?_ | refine inB_n ?_ | refine inB_r ?_ | refine thenQ_n ?_ | refine thenQ_r ?_ | refine thenQ_e ?_ | refine cpn_succ ?_)
      | (refine inB_miss rfl ?_)
      | (simp only [List.append_eq, List.cons_append, List.nil_append]))
  refine CP.gh gh_slot ?_
  simp only [nm, newS, plc, spl, bldA, bldS, zrow, chunks, ZC.val, Nat.reduceAdd, Nat.reduceSub, BEq.rfl]
  refine cp_loopS [4, 5, 6, 9, 10, 11, 12, 13, 14, 15, 16, 17, 18, 19] (fun a : Nat × Nat => l.length - a.1) (fun a => a.1 ≤ l.length ∧ allG p 0 l = allG p a.1 (l.drop a.1)) (fun a => [(9, I a.1)]) (fun a => [(1, ⟨a.2, .x⟩)]) (0, 0) ⟨Nat.zero_le _, rfl⟩ (by (refine gh_wk ?_; (try simp only [setT, deT, setB, List.set_cons_succ, List.set_cons_zero]); (refine ⟨?_, ?_⟩ <;> (try dsimp only) <;> (repeat' (first | exact Wk.nil | exact WkB.nil | apply Wk.same | apply Wk.de | apply Wk.nl | apply WkB.same | apply WkB.drop))))) ?_
  rintro ⟨k, u⟩ ⟨hk, he⟩
  simp only [setT, deT, setB, List.set_cons_succ, List.set_cons_zero]
  dsimp only at hk he
  by_cases hlt : k < l.length
  · have hw : IntKind.i64.wrap ((k : Int) + 1) = ((k + 1 : Nat) : Int) := wrap_i64 (by omega) (by omega)
    rw [List.drop_eq_getElem_cons hlt, allG] at he
    repeat' (first
      | ((first
      | ((with_reducible apply AP.k_any); first
               | (refine AP.sm false rfl ?_ ?_; focus ((repeat' (with_reducible apply And.intro)) <;> (first | exact True.intro | exact rfl | omega | (simp; omega) | (simp; done) | assumption | exact .inl rfl | (refine .inr ?_; simp; try omega))))
               | (refine AP.el rfl ?_ (by (first | (refine ⟨?_, ?_⟩; assumption; rfl) | exact ⟨mapAt (by (first | omega | (simp; omega) | (simp; done) | assumption)), rfl⟩ | exact ⟨rfl, rfl⟩)) ?_; focus ((repeat' (with_reducible apply And.intro)) <;> (first | exact True.intro | exact rfl | omega | (simp; omega) | (simp; done) | assumption | exact .inl rfl | (refine .inr ?_; simp; try omega))))
               | refine ap_storeE rfl rfl rfl rfl rfl rfl rfl rfl (by (first | (refine ⟨?_, ?_⟩; assumption; rfl) | exact ⟨mapAt (by (first | omega | (simp; omega) | (simp; done) | assumption)), rfl⟩ | exact ⟨rfl, rfl⟩)) (by exact rfl) ?_
        )
      | ((with_reducible apply AP.k_any); refine ap_callB 0 [(0, 0)] rfl rfl (fn := f) rfl (hf k hlt) (by (repeat' (first | exact PasC.nil | apply PasC.nil | apply PasC.cons | apply PasV.leaf rfl | apply PasV.nl | apply PasV.bp rfl | apply PasV.lend rfl rfl rfl | apply PasV.lend rfl rfl (ro_B _) | apply PasV.lend rfl rfl (ro_M _) | apply PasV.lend rfl rfl (ro_E _ _) | apply PasV.lend rfl rfl (ro_I _) | apply PasV.mv rfl | apply PasV.ag | apply PasV.fn | exact PasV.fs | apply PasV.any))) (by (repeat' (first | exact Out.nil | apply Out.cons rfl | exact ClsC.nil | apply ClsC.nl | apply ClsC.leaf rfl | apply ClsC.hd rfl | apply ClsC.fn | apply ClsC.fz rfl (ro_B _) | apply ClsC.fz rfl (ro_M _) | apply ClsC.fz rfl (ro_E _ _) | apply ClsC.fz rfl rfl))) rfl (by (repeat' (first | exact Bk.nil | apply Bk.cons rfl rfl rfl))) (by (repeat' (first | exact RnV.leaf rfl | exact RnC.nil | apply RnC.cons | apply RnV.ag | apply RnV.tu | exact RnV.bp rfl))) rfl ?_)
      )
        <;> (try simp only [nm, newS, plc, spl, bldA, bldS, zrow, chunks, ZC.val, Nat.reduceAdd, Nat.reduceSub, BEq.rfl]))
      | ((with_reducible apply AP.k_nil); first
          | (refine AP.nil (hQ' _ ?_); clear hQ' Q')
          | refine AP.nil ?_)
      | ((with_reducible apply CP.k_reg); refine cp_regG fun Q' hQ' => ?_)
        | (with_reducible apply CP.k_reg1; refine cp_region ?_)
        | ((with_reducible apply CP.k_cond); first
            | refine cp_condT rfl ?_
            | refine cp_condF rfl ?_
            | refine cp_cond rfl (fun hc => ?_) (fun hc => ?_))
        | (with_reducible first | refine cp_block ?_ | refine cp_exit ?_ | refine cp_ret ?_ | refine cp_skip ?_ | refine cp_seq ?_ | refine inB_hit ?_ | refine inB_n ?_ | refine inB_r ?_ | refine thenQ_n ?_ | refine thenQ_r ?_ | refine thenQ_e ?_ | refine cpn_succ ?_)
        | (refine inB_miss rfl ?_)
        | (simp only [List.append_eq, List.cons_append, List.nil_append]))
    · (apply RetQ.mk2 (ks := [(0, 0)]) (by first | exact .inr rfl | exact .inl rfl); (iterate 5 (focus ((repeat' (first | exact RnV.leaf rfl | exact RnC.nil | apply RnC.cons | apply RnV.ag | apply RnV.tu | exact RnV.bp rfl | exact ResL.nil | apply ResL.cons (Res1.row rfl rfl rfl rfl rfl) | apply ResL.cons (Res1.flat rfl rfl rfl rfl rfl) | apply ResL.cons (Res1.tmp (by (try simp only [List.getD_cons_succ, List.getD_cons_zero]); exact rfl)) | exact ClsC.nil | exact ClsL.nil | apply ClsC.nl | apply ClsC.leaf rfl | apply ClsC.hd rfl | apply ClsC.fn | apply ClsR.tu | apply ClsL.cons | apply ClsV.ag | exact ClsV.bp | exact ClsV.one (ClsC.leaf rfl ClsC.nil) | exact ClsV.one (ClsC.nl ClsC.nil) | exact ClsV.one (ClsC.hd rfl ClsC.nil) | apply ClsR.one | exact Out.nil | apply Out.cons rfl | exact hks_of rfl)); done))); (try dsimp only [resV, List.getD_cons_succ, List.getD_cons_zero]); ((have h : p k l[k] = false := by simpa using hc); exact ⟨by rw [he, h, Bool.false_and], rfl⟩))
    · simp only [hw]
      exact ⟨(k + 1, u + 1), by (dsimp only; omega), ⟨by (dsimp only; omega), by (have h : p k l[k] = true := by simpa using hc); rw [he, h, Bool.true_and]⟩, by (refine gh_wk ?_; (try simp only [setT, deT, setB, List.set_cons_succ, List.set_cons_zero]); (refine ⟨?_, ?_⟩ <;> (try dsimp only) <;> (repeat' (first | exact Wk.nil | exact WkB.nil | apply Wk.same | apply Wk.de | apply Wk.nl | apply WkB.same | apply WkB.drop))))⟩
    · exfalso; simp at *; omega
  · rw [List.drop_of_length_le (by omega), allG] at he
    repeat' (first
      | ((first
      | ((with_reducible apply AP.k_any); first
               | (refine AP.sm false rfl ?_ ?_; focus ((repeat' (with_reducible apply And.intro)) <;> (first | exact True.intro | exact rfl | omega | (simp; omega) | (simp; done) | assumption | exact .inl rfl | (refine .inr ?_; simp; try omega))))
               | (refine AP.el rfl ?_ (by (first | (refine ⟨?_, ?_⟩; assumption; rfl) | exact ⟨mapAt (by (first | omega | (simp; omega) | (simp; done) | assumption)), rfl⟩ | exact ⟨rfl, rfl⟩)) ?_; focus ((repeat' (with_reducible apply And.intro)) <;> (first | exact True.intro | exact rfl | omega | (simp; omega) | (simp; done) | assumption | exact .inl rfl | (refine .inr ?_; simp; try omega))))
               | refine ap_storeE rfl rfl rfl rfl rfl rfl rfl rfl (by (first | (refine ⟨?_, ?_⟩; assumption; rfl) | exact ⟨mapAt (by (first | omega | (simp; omega) | (simp; done) | assumption)), rfl⟩ | exact ⟨rfl, rfl⟩)) (by exact rfl) ?_
        )
      
      )
        <;> (try simp only [nm, newS, plc, spl, bldA, bldS, zrow, chunks, ZC.val, Nat.reduceAdd, Nat.reduceSub, BEq.rfl]))
      | ((with_reducible apply AP.k_nil); first
          | (refine AP.nil (hQ' _ ?_); clear hQ' Q')
          | refine AP.nil ?_)
      | ((with_reducible apply CP.k_reg); refine cp_regG fun Q' hQ' => ?_)
        | (with_reducible apply CP.k_reg1; refine cp_region ?_)
        | ((with_reducible apply CP.k_cond); first
            | refine cp_condT rfl ?_
            | refine cp_condF rfl ?_
            | refine cp_cond rfl (fun hc => ?_) (fun hc => ?_))
        | (with_reducible first | refine cp_block ?_ | refine cp_exit ?_ | refine cp_ret ?_ | refine cp_skip ?_ | refine cp_seq ?_ | refine inB_hit ?_ | refine inB_n ?_ | refine inB_r ?_ | refine thenQ_n ?_ | refine thenQ_r ?_ | refine thenQ_e ?_ | refine cpn_succ ?_)
        | (refine inB_miss rfl ?_)
        | (simp only [List.append_eq, List.cons_append, List.nil_append]))
    all_goals first
      | (exfalso; simp at *; done)
      | (exfalso; simp at *; omega)
      | (apply RetQ.mk2 (ks := [(0, 0)]) (by first | exact .inr rfl | exact .inl rfl); (iterate 5 (focus ((repeat' (first | exact RnV.leaf rfl | exact RnC.nil | apply RnC.cons | apply RnV.ag | apply RnV.tu | exact RnV.bp rfl | exact ResL.nil | apply ResL.cons (Res1.row rfl rfl rfl rfl rfl) | apply ResL.cons (Res1.flat rfl rfl rfl rfl rfl) | apply ResL.cons (Res1.tmp (by (try simp only [List.getD_cons_succ, List.getD_cons_zero]); exact rfl)) | exact ClsC.nil | exact ClsL.nil | apply ClsC.nl | apply ClsC.leaf rfl | apply ClsC.hd rfl | apply ClsC.fn | apply ClsR.tu | apply ClsL.cons | apply ClsV.ag | exact ClsV.bp | exact ClsV.one (ClsC.leaf rfl ClsC.nil) | exact ClsV.one (ClsC.nl ClsC.nil) | exact ClsV.one (ClsC.hd rfl ClsC.nil) | apply ClsR.one | exact Out.nil | apply Out.cons rfl | exact hks_of rfl)); done))); (try dsimp only [resV, List.getD_cons_succ, List.getD_cons_zero]); (exact ⟨by rw [he], rfl⟩))
theorem all2_ac (f : Nat) (m : Member) (p : Nat → Member → Bool) (l : List Member) (hl : l.length ≤ 100000000) (hf : ∀ (i : Nat) (h : i < l.length), AC Try.prog f [I i, .ag (eM l[i]), .bp 0 0 0] [.c tM (eM m)] (fun v bs => v = B (p i l[i]) ∧ bs = [.c tM (eM m)])) :
    AC Try.prog 49 [ms none l, .fn f [.bp 0 0 0]] [.c tM (eM m)] (fun v bs => v = B (allG p 0 l) ∧ bs = [.c tM (eM m)]) := by
  refine AC.enter Try.func49 rfl rfl Try.ntmps49 (fl1_all rfl) (by (repeat' (first | exact Bk.nil | apply Bk.cons rfl rfl rfl))) ?_
  intro X
  simp only [nm, newS, plc, spl, bldA, bldS, zrow, chunks, ZC.val, Nat.reduceAdd, Nat.reduceSub, BEq.rfl]
  repeat' (first
    | ((first
    | ((with_reducible apply AP.k_any); first
             | (refine AP.sm false rfl ?_ ?_; focus ((repeat' (with_reducible apply And.intro)) <;> (first | exact True.intro | exact rfl | omega | (simp; omega) | (simp; done) | assumption | exact .inl rfl | (refine .inr ?_; simp; try omega))))
             | (refine AP.el rfl ?_ (by (first | (refine ⟨?_, ?_⟩; assumption; rfl) | exact ⟨mapAt (by (first | omega | (simp; omega) | (simp; done) | assumption)), rfl⟩ | exact ⟨rfl, rfl⟩)) ?_; focus ((repeat' (with_reducible apply And.intro)) <;> (first | exact True.intro | exact rfl | omega | (simp; omega) | (simp; done) | assumption | exact .inl rfl | (refine .inr ?_; simp; try omega))))
             | refine ap_storeE rfl rfl rfl rfl rfl rfl rfl rfl (by (first | (refine ⟨?_, ?_⟩; assumption; rfl) | exact ⟨mapAt (by (first | omega | (simp; omega) | (simp; done) | assumption)), rfl⟩ | exact ⟨rfl, rfl⟩)) (by exact rfl) ?_
      )
    
    )
      <;> (try simp only [nm, newS, plc, spl, bldA, bldS, zrow, chunks, ZC.val, Nat.reduceAdd, Nat.reduceSub, BEq.rfl]))
    | ((with_reducible apply AP.k_nil); first
        | (refine AP.nil (hQ' _ ?_); clear hQ' Q')
        | refine AP.nil ?_)
    | ((with_reducible apply CP.k_reg); refine cp_regG fun Q' hQ' => ?_)
      | (with_reducible apply CP.k_reg1; refine cp_region ?_)
      | ((with_reducible apply CP.k_cond); first
          | refine cp_condT rfl ?_
          | refine cp_condF rfl ?_
          | refine cp_cond rfl (fun hc => ?_) (fun hc => ?_))
      | (with_reducible first | refine cp_block ?_ | refine cp_exit ?_ | refine cp_ret ?_ | refine cp_skip ?_ | refine cp_seq ?_ | refine inB_hit ?_ | refine inB_n ?_ | refine inB_r ?_ | refine thenQ_n ?_ | refine thenQ_r ?_ | refine thenQ_e ?_ | refine cpn_succ ?_)
      | (refine inB_miss rfl ?_)
      | (simp only [List.append_eq, List.cons_append, List.nil_append]))
  refine CP.gh gh_slot ?_
  simp only [nm, newS, plc, spl, bldA, bldS, zrow, chunks, ZC.val, Nat.reduceAdd, Nat.reduceSub, BEq.rfl]
  refine cp_loopS [4, 5, 6, 9, 10, 11, 12, 13, 14, 15, 16, 17, 18, 19] (fun a : Nat × Nat => l.length - a.1) (fun a => a.1 ≤ l.length ∧ allG p 0 l = allG p a.1 (l.drop a.1)) (fun a => [(9, I a.1)]) (fun a => [(1, ⟨a.2, .x⟩)]) (0, 0) ⟨Nat.zero_le _, rfl⟩ (by (refine gh_wk ?_; (try simp only [setT, deT, setB, List.set_cons_succ, List.set_cons_zero]); (refine ⟨?_, ?_⟩ <;> (try dsimp only) <;> (repeat' (first | exact Wk.nil | exact WkB.nil | apply Wk.same | apply Wk.de | apply Wk.nl | apply WkB.same | apply WkB.drop))))) ?_
  rintro ⟨k, u⟩ ⟨hk, he⟩
  simp only [setT, deT, setB, List.set_cons_succ, List.set_cons_zero]
  dsimp only at hk he
  by_cases hlt : k < l.length
  · have hw : IntKind.i64.wrap ((k : Int) + 1) = ((k + 1 : Nat) : Int) := wrap_i64 (by omega) (by omega)
    rw [List.drop_eq_getElem_cons hlt, allG] at he
    repeat' (first
      | ((first
      | ((with_reducible apply AP.k_any); first
               | (refine AP.sm false rfl ?_ ?_; focus ((repeat' (with_reducible apply And.intro)) <;> (first | exact True.intro | exact rfl | omega | (simp; omega) | (simp; done) | assumption | exact .inl rfl | (refine .inr ?_; simp; try omega))))
               | (refine AP.el rfl ?_ (by (first | (refine ⟨?_, ?_⟩; assumption; rfl) | exact ⟨mapAt (by (first | omega | (simp; omega) | (simp; done) | assumption)), rfl⟩ | exact ⟨rfl, rfl⟩)) ?_; focus ((repeat' (with_reducible apply And.intro)) <;> (first | exact True.intro | exact rfl | omega | (simp; omega) | (simp; done) | assumption | exact .inl rfl | (refine .inr ?_; simp; try omega))))
               | refine ap_storeE rfl rfl rfl rfl rfl rfl rfl rfl (by (first | (refine ⟨?_, ?_⟩; assumption; rfl) | exact ⟨mapAt (by (first | omega | (simp; omega) | (simp; done) | assumption)), rfl⟩ | exact ⟨rfl, rfl⟩)) (by exact rfl) ?_
        )
      | ((with_reducible apply AP.k_any); refine ap_callB 0 [(0, 0)] rfl rfl (fn := f) rfl (hf k hlt) (by (repeat' (first | exact PasC.nil | apply PasC.nil | apply PasC.cons | apply PasV.leaf rfl | apply PasV.nl | apply PasV.bp rfl | apply PasV.lend rfl rfl rfl | apply PasV.lend rfl rfl (ro_B _) | apply PasV.lend rfl rfl (ro_M _) | apply PasV.lend rfl rfl (ro_E _ _) | apply PasV.lend rfl rfl (ro_I _) | apply PasV.mv rfl | apply PasV.ag | apply PasV.fn | exact PasV.fs | apply PasV.any))) (by (repeat' (first | exact Out.nil | apply Out.cons rfl | exact ClsC.nil | apply ClsC.nl | apply ClsC.leaf rfl | apply ClsC.hd rfl | apply ClsC.fn | apply ClsC.fz rfl (ro_B _) | apply ClsC.fz rfl (ro_M _) | apply ClsC.fz rfl (ro_E _ _) | apply ClsC.fz rfl rfl))) rfl (by (repeat' (first | exact Bk.nil | apply Bk.cons rfl rfl rfl))) (by (repeat' (first | exact RnV.leaf rfl | exact RnC.nil | apply RnC.cons | apply RnV.ag | apply RnV.tu | exact RnV.bp rfl))) rfl ?_)
      )
        <;> (try simp only [nm, newS, plc, spl, bldA, bldS, zrow, chunks, ZC.val, Nat.reduceAdd, Nat.reduceSub, BEq.rfl]))
      | ((with_reducible apply AP.k_nil); first
          | (refine AP.nil (hQ' _ ?_); clear hQ' Q')
          | refine AP.nil ?_)
      | ((with_reducible apply CP.k_reg); refine cp_regG fun Q' hQ' => ?_)
        | (with_reducible apply CP.k_reg1; refine cp_region ?_)
        | ((with_reducible apply CP.k_cond); first
            | refine cp_condT rfl ?_
            | refine cp_condF rfl ?_
            | refine cp_cond rfl (fun hc => ?_) (fun hc => ?_))
        | (with_reducible first | refine cp_block ?_ | refine cp_exit ?_ | refine cp_ret ?_ | refine cp_skip ?_ | refine cp_seq ?_ | refine inB_hit ?_ | refine inB_n ?_ | refine inB_r ?_ | refine thenQ_n ?_ | refine thenQ_r ?_ | refine thenQ_e ?_ | refine cpn_succ ?_)
        | (refine inB_miss rfl ?_)
        | (simp only [List.append_eq, List.cons_append, List.nil_append]))
    · (apply RetQ.mk2 (ks := [(0, 0)]) (by first | exact .inr rfl | exact .inl rfl); (iterate 5 (focus ((repeat' (first | exact RnV.leaf rfl | exact RnC.nil | apply RnC.cons | apply RnV.ag | apply RnV.tu | exact RnV.bp rfl | exact ResL.nil | apply ResL.cons (Res1.row rfl rfl rfl rfl rfl) | apply ResL.cons (Res1.flat rfl rfl rfl rfl rfl) | apply ResL.cons (Res1.tmp (by (try simp only [List.getD_cons_succ, List.getD_cons_zero]); exact rfl)) | exact ClsC.nil | exact ClsL.nil | apply ClsC.nl | apply ClsC.leaf rfl | apply ClsC.hd rfl | apply ClsC.fn | apply ClsR.tu | apply ClsL.cons | apply ClsV.ag | exact ClsV.bp | exact ClsV.one (ClsC.leaf rfl ClsC.nil) | exact ClsV.one (ClsC.nl ClsC.nil) | exact ClsV.one (ClsC.hd rfl ClsC.nil) | apply ClsR.one | exact Out.nil | apply Out.cons rfl | exact hks_of rfl)); done))); (try dsimp only [resV, List.getD_cons_succ, List.getD_cons_zero]); ((have h : p k l[k] = false := by simpa using hc); exact ⟨by rw [he, h, Bool.false_and], rfl⟩))
    · simp only [hw]
      exact ⟨(k + 1, u + 1), by (dsimp only; omega), ⟨by (dsimp only; omega), by (have h : p k l[k] = true := by simpa using hc); rw [he, h, Bool.true_and]⟩, by (refine gh_wk ?_; (try simp only [setT, deT, setB, List.set_cons_succ, List.set_cons_zero]); (refine ⟨?_, ?_⟩ <;> (try dsimp only) <;> (repeat' (first | exact Wk.nil | exact WkB.nil | apply Wk.same | apply Wk.de | apply Wk.nl | apply WkB.same | apply WkB.drop))))⟩
    · exfalso; simp at *; omega
  · rw [List.drop_of_length_le (by omega), allG] at he
    repeat' (first
      | ((first
      | ((with_reducible apply AP.k_any); first
               | (refine AP.sm false rfl ?_ ?_; focus ((repeat' (with_reducible apply And.intro)) <;> (first | exact True.intro | exact rfl | omega | (simp; omega) | (simp; done) | assumption | exact .inl rfl | (refine .inr ?_; simp; try omega))))
               | (refine AP.el rfl ?_ (by (first | (refine ⟨?_, ?_⟩; assumption; rfl) | exact ⟨mapAt (by (first | omega | (simp; omega) | (simp; done) | assumption)), rfl⟩ | exact ⟨rfl, rfl⟩)) ?_; focus ((repeat' (with_reducible apply And.intro)) <;> (first | exact True.intro | exact rfl | omega | (simp; omega) | (simp; done) | assumption | exact .inl rfl | (refine .inr ?_; simp; try omega))))
               | refine ap_storeE rfl rfl rfl rfl rfl rfl rfl rfl (by (first | (refine ⟨?_, ?_⟩; assumption; rfl) | exact ⟨mapAt (by (first | omega | (simp; omega) | (simp; done) | assumption)), rfl⟩ | exact ⟨rfl, rfl⟩)) (by exact rfl) ?_
        )
      
      )
        <;> (try simp only [nm, newS, plc, spl, bldA, bldS, zrow, chunks, ZC.val, Nat.reduceAdd, Nat.reduceSub, BEq.rfl]))
      | ((with_reducible apply AP.k_nil); first
          | (refine AP.nil (hQ' _ ?_); clear hQ' Q')
          | refine AP.nil ?_)
      | ((with_reducible apply CP.k_reg); refine cp_regG fun Q' hQ' => ?_)
        | (with_reducible apply CP.k_reg1; refine cp_region ?_)
        | ((with_reducible apply CP.k_cond); first
            | refine cp_condT rfl ?_
            | refine cp_condF rfl ?_
            | refine cp_cond rfl (fun hc => ?_) (fun hc => ?_))
        | (with_reducible first | refine cp_block ?_ | refine cp_exit ?_ | refine cp_ret ?_ | refine cp_skip ?_ | refine cp_seq ?_ | refine inB_hit ?_ | refine inB_n ?_ | refine inB_r ?_ | refine thenQ_n ?_ | refine thenQ_r ?_ | refine thenQ_e ?_ | refine cpn_succ ?_)
        | (refine inB_miss rfl ?_)
        | (simp only [List.append_eq, List.cons_append, List.nil_append]))
    all_goals first
      | (exfalso; simp at *; done)
      | (exfalso; simp at *; omega)
      | (apply RetQ.mk2 (ks := [(0, 0)]) (by first | exact .inr rfl | exact .inl rfl); (iterate 5 (focus ((repeat' (first | exact RnV.leaf rfl | exact RnC.nil | apply RnC.cons | apply RnV.ag | apply RnV.tu | exact RnV.bp rfl | exact ResL.nil | apply ResL.cons (Res1.row rfl rfl rfl rfl rfl) | apply ResL.cons (Res1.flat rfl rfl rfl rfl rfl) | apply ResL.cons (Res1.tmp (by (try simp only [List.getD_cons_succ, List.getD_cons_zero]); exact rfl)) | exact ClsC.nil | exact ClsL.nil | apply ClsC.nl | apply ClsC.leaf rfl | apply ClsC.hd rfl | apply ClsC.fn | apply ClsR.tu | apply ClsL.cons | apply ClsV.ag | exact ClsV.bp | exact ClsV.one (ClsC.leaf rfl ClsC.nil) | exact ClsV.one (ClsC.nl ClsC.nil) | exact ClsV.one (ClsC.hd rfl ClsC.nil) | apply ClsR.one | exact Out.nil | apply Out.cons rfl | exact hks_of rfl)); done))); (try dsimp only [resV, List.getD_cons_succ, List.getD_cons_zero]); (exact ⟨by rw [he], rfl⟩))
end Go.Proofs.Ytpdegeknhapgmaa

namespace Go.Proofs.Ytpdegeknhapgmaa
set_option linter.unusedVariables false
set_option linter.unusedSimpArgs false
set_option maxHeartbeats 8000000
open Go.RowKit
set_option maxRecDepth 100000
def pNode (n : Int) : Nat → Member → Bool := fun _ x => x.node != n
def pMem (c : Config) : Nat → Member → Bool := fun i m => decide (0 ≤ m.node) && decide (m.node < 5) && decide (1 ≤ m.since) && decide (m.since ≤ c.epoch) && allG (pNode m.node) 0 (c.members.take i)
def mayCfg (c : Config) : Bool := decide (1 ≤ c.epoch) && decide (c.members.length ≤ 5) && allG (pMem c) 0 c.members
theorem mc2_ac (i : Nat) (x m : Member) : AC Try.prog 51 [I i, .ag (eM x), .bp 0 0 0] [.c tM (eM m)] (fun v bs => v = B (pNode m.node i x) ∧ bs = [.c tM (eM m)]) := by
  refine AC.enter Try.func51 rfl rfl Try.ntmps51 (fl1_all rfl) (by (repeat' (first | exact Bk.nil | apply Bk.cons rfl rfl rfl))) ?_
  intro X
  simp only [nm, newS, plc, spl, bldA, bldS, zrow, chunks, ZC.val, Nat.reduceAdd, Nat.reduceSub, BEq.rfl]
  repeat' (first
    | ((first
    | ((with_reducible apply AP.k_any); first
             | (refine AP.sm false rfl ?_ ?_; focus ((repeat' (with_reducible apply And.intro)) <;> (first | exact True.intro | exact rfl | omega | (simp; omega) | (simp; done) | assumption | exact .inl rfl | (refine .inr ?_; simp; try omega))))
      )
    
    )
      <;> (try simp only [nm, newS, plc, spl, bldA, bldS, zrow, chunks, ZC.val, Nat.reduceAdd, Nat.reduceSub, BEq.rfl]))
    | ((with_reducible apply AP.k_nil); first
        | (refine AP.nil (hQ' _ ?_); clear hQ' Q')
        | refine AP.nil ?_)
    | ((with_reducible apply CP.k_reg); refine cp_regG fun Q' hQ' => ?_)
      | (with_reducible apply CP.k_reg1; refine cp_region ?_)
      | ((with_reducible apply CP.k_cond); first
          | refine cp_condT rfl ?_
          | refine cp_condF rfl ?_
          | refine cp_cond rfl (fun hc => ?_) (fun hc => ?_))
      | (with_reducible first | refine cp_block ?_ | refine cp_exit ?_ | refine cp_ret ?_ | refine cp_skip ?_ | refine cp_seq ?_ | refine inB_hit ?_ | refine inB_n ?_ | refine inB_r ?_ | refine thenQ_n ?_ | refine thenQ_r ?_ | refine thenQ_e ?_ | refine cpn_succ ?_)
      | (refine inB_miss rfl ?_)
      | (simp only [List.append_eq, List.cons_append, List.nil_append]))
  (apply RetQ.mk2 (ks := [(0, 0)]) (by first | exact .inr rfl | exact .inl rfl); (iterate 5 (focus ((repeat' (first | exact RnV.leaf rfl | exact RnC.nil | apply RnC.cons | apply RnV.ag | apply RnV.tu | exact RnV.bp rfl | exact ResL.nil | apply ResL.cons (Res1.row rfl rfl rfl rfl rfl) | apply ResL.cons (Res1.flat rfl rfl rfl rfl rfl) | apply ResL.cons (Res1.tmp (by (try simp only [List.getD_cons_succ, List.getD_cons_zero]); exact rfl)) | exact ClsC.nil | exact ClsL.nil | apply ClsC.nl | apply ClsC.leaf rfl | apply ClsC.hd rfl | apply ClsC.fn | apply ClsR.tu | apply ClsL.cons | apply ClsV.ag | exact ClsV.bp | exact ClsV.one (ClsC.leaf rfl ClsC.nil) | exact ClsV.one (ClsC.nl ClsC.nil) | exact ClsV.one (ClsC.hd rfl ClsC.nil) | apply ClsR.one | exact Out.nil | apply Out.cons rfl | exact hks_of rfl)); done))); (try dsimp only [resV, List.getD_cons_succ, List.getD_cons_zero]); (exact ⟨rfl, rfl⟩))
theorem mc1_ac (c : Config) (i : Nat) (m : Member) (hi : i ≤ c.members.length) (hl : c.members.length ≤ 100000000) : AC Try.prog 50 [I i, .ag (eM m), .bp 0 0 0] [.c 27 (eC none c)] (fun v bs => v = B (pMem c i m) ∧ bs = [.c 27 (eC none c)]) := by
  have h := all2_ac 51 m (pNode m.node) (c.members.take i) (by simp; omega) (fun k hk => mc2_ac k _ m)
  refine AC.enter Try.func50 rfl rfl Try.ntmps50 (fl1_all rfl) (by (repeat' (first | exact Bk.nil | apply Bk.cons rfl rfl rfl))) ?_
  intro X
  simp only [nm, newS, plc, spl, bldA, bldS, zrow, chunks, ZC.val, Nat.reduceAdd, Nat.reduceSub, BEq.rfl]
  repeat' (first
    | ((first
    | ((with_reducible apply AP.k_any); first
             | (refine AP.sm false rfl ?_ ?_; focus ((repeat' (with_reducible apply And.intro)) <;> (first | exact True.intro | exact rfl | omega | (simp; omega) | (simp; done) | assumption | exact .inl rfl | (refine .inr ?_; simp; try omega))))
             | (refine AP.gyes rfl rfl rfl ?_; dsimp only) | (refine AP.gsplit rfl rfl rfl (fun hg => ?_) (fun hg => ?_))
      )
    | ((with_reducible apply AP.k_any); refine ap_callB 0 [(1, 1)] rfl rfl (fn := 49) rfl (h) (by (repeat' (first | exact PasC.nil | apply PasC.nil | apply PasC.cons | apply PasV.leaf rfl | apply PasV.nl | apply PasV.bp rfl | apply PasV.lend rfl rfl rfl | apply PasV.lend rfl rfl (ro_B _) | apply PasV.lend rfl rfl (ro_M _) | apply PasV.lend rfl rfl (ro_E _ _) | apply PasV.lend rfl rfl (ro_I _) | apply PasV.mv rfl | apply PasV.ag | apply PasV.fn | exact PasV.fs | apply PasV.any))) (by (repeat' (first | exact Out.nil | apply Out.cons rfl | exact ClsC.nil | apply ClsC.nl | apply ClsC.leaf rfl | apply ClsC.hd rfl | apply ClsC.fn | apply ClsC.fz rfl (ro_B _) | apply ClsC.fz rfl (ro_M _) | apply ClsC.fz rfl (ro_E _ _) | apply ClsC.fz rfl rfl))) rfl (by (repeat' (first | exact Bk.nil | apply Bk.cons rfl rfl rfl))) (by (repeat' (first | exact RnV.leaf rfl | exact RnC.nil | apply RnC.cons | apply RnV.ag | apply RnV.tu | exact RnV.bp rfl))) rfl ?_)
    )
      <;> (try simp only [nm, newS, plc, spl, bldA, bldS, zrow, chunks, ZC.val, Nat.reduceAdd, Nat.reduceSub, BEq.rfl]))
    | ((with_reducible apply AP.k_nil); first
        | (refine AP.nil (hQ' _ ?_); clear hQ' Q')
        | refine AP.nil ?_)
    | ((with_reducible apply CP.k_reg); refine cp_regG fun Q' hQ' => ?_)
      | (with_reducible apply CP.k_reg1; refine cp_region ?_)
      | ((with_reducible apply CP.k_cond); first
          | refine cp_condT rfl ?_
          | refine cp_condF rfl ?_
          | refine cp_cond rfl (fun hc => ?_) (fun hc => ?_))
      | (with_reducible first | refine cp_block ?_ | refine cp_exit ?_ | refine cp_ret ?_ | refine cp_skip ?_ | refine cp_seq ?_ | refine inB_hit ?_ | refine inB_n ?_ | refine inB_r ?_ | refine thenQ_n ?_ | refine thenQ_r ?_ | refine thenQ_e ?_ | refine cpn_succ ?_)
      | (refine inB_miss rfl ?_)
      | (simp only [List.append_eq, List.cons_append, List.nil_append]))
  all_goals (apply RetQ.mk2 (ks := [(0, 0)]) (by first | exact .inr rfl | exact .inl rfl); (iterate 5 (focus ((repeat' (first | exact RnV.leaf rfl | exact RnC.nil | apply RnC.cons | apply RnV.ag | apply RnV.tu | exact RnV.bp rfl | exact ResL.nil | apply ResL.cons (Res1.row rfl rfl rfl rfl rfl) | apply ResL.cons (Res1.flat rfl rfl rfl rfl rfl) | apply ResL.cons (Res1.tmp (by (try simp only [List.getD_cons_succ, List.getD_cons_zero]); exact rfl)) | exact ClsC.nil | exact ClsL.nil | apply ClsC.nl | apply ClsC.leaf rfl | apply ClsC.hd rfl | apply ClsC.fn | apply ClsR.tu | apply ClsL.cons | apply ClsV.ag | exact ClsV.bp | exact ClsV.one (ClsC.leaf rfl ClsC.nil) | exact ClsV.one (ClsC.nl ClsC.nil) | exact ClsV.one (ClsC.hd rfl ClsC.nil) | apply ClsR.one | exact Out.nil | apply Out.cons rfl | exact hks_of rfl)); done))); (try dsimp only [resV, List.getD_cons_succ, List.getD_cons_zero]); ((refine ⟨?_, rfl⟩; simp at *; simp [pMem, *]; try omega)))
theorem mayConfig_ac (c : Config) (hl : c.members.length ≤ 100000000) : AC Try.prog 19 [.ag (eC none c)] [] (fun v bs => v = B (mayCfg c) ∧ bs = []) := by
  have h := all1_ac 50 c (pMem c) c.members hl (fun k hk => mc1_ac c k _ (by omega) hl)
  refine AC.enter Try.func19 rfl rfl Try.ntmps19 (fl1_all rfl) (by (repeat' (first | exact Bk.nil | apply Bk.cons rfl rfl rfl))) ?_
  intro X
  simp only [nm, newS, plc, spl, bldA, bldS, zrow, chunks, ZC.val, Nat.reduceAdd, Nat.reduceSub, BEq.rfl]
  repeat' (first
    | ((first
    | ((with_reducible apply AP.k_any); first
             | (refine AP.sm false rfl ?_ ?_; focus ((repeat' (with_reducible apply And.intro)) <;> (first | exact True.intro | exact rfl | omega | (simp; omega) | (simp; done) | assumption | exact .inl rfl | (refine .inr ?_; simp; try omega))))
             | (refine AP.gyes rfl rfl rfl ?_; dsimp only) | (refine AP.gsplit rfl rfl rfl (fun hg => ?_) (fun hg => ?_))
      )
    | ((with_reducible apply AP.k_any); refine ap_callB 0 [(0, 1)] rfl rfl (fn := 49) rfl (h) (by (repeat' (first | exact PasC.nil | apply PasC.nil | apply PasC.cons | apply PasV.leaf rfl | apply PasV.nl | apply PasV.bp rfl | apply PasV.lend rfl rfl rfl | apply PasV.lend rfl rfl (ro_B _) | apply PasV.lend rfl rfl (ro_M _) | apply PasV.lend rfl rfl (ro_E _ _) | apply PasV.lend rfl rfl (ro_I _) | apply PasV.mv rfl | apply PasV.ag | apply PasV.fn | exact PasV.fs | apply PasV.any))) (by (repeat' (first | exact Out.nil | apply Out.cons rfl | exact ClsC.nil | apply ClsC.nl | apply ClsC.leaf rfl | apply ClsC.hd rfl | apply ClsC.fn | apply ClsC.fz rfl (ro_B _) | apply ClsC.fz rfl (ro_M _) | apply ClsC.fz rfl (ro_E _ _) | apply ClsC.fz rfl rfl))) rfl (by (repeat' (first | exact Bk.nil | apply Bk.cons rfl rfl rfl))) (by (repeat' (first | exact RnV.leaf rfl | exact RnC.nil | apply RnC.cons | apply RnV.ag | apply RnV.tu | exact RnV.bp rfl))) rfl ?_)
    )
      <;> (try simp only [nm, newS, plc, spl, bldA, bldS, zrow, chunks, ZC.val, Nat.reduceAdd, Nat.reduceSub, BEq.rfl]))
    | ((with_reducible apply AP.k_nil); first
        | (refine AP.nil (hQ' _ ?_); clear hQ' Q')
        | refine AP.nil ?_)
    | ((with_reducible apply CP.k_reg); refine cp_regG fun Q' hQ' => ?_)
      | (with_reducible apply CP.k_reg1; refine cp_region ?_)
      | ((with_reducible apply CP.k_cond); first
          | refine cp_condT rfl ?_
          | refine cp_condF rfl ?_
          | refine cp_cond rfl (fun hc => ?_) (fun hc => ?_))
      | (with_reducible first | refine cp_block ?_ | refine cp_exit ?_ | refine cp_ret ?_ | refine cp_skip ?_ | refine cp_seq ?_ | refine inB_hit ?_ | refine inB_n ?_ | refine inB_r ?_ | refine thenQ_n ?_ | refine thenQ_r ?_ | refine thenQ_e ?_ | refine cpn_succ ?_)
      | (refine inB_miss rfl ?_)
      | (simp only [List.append_eq, List.cons_append, List.nil_append]))
  all_goals (apply RetQ.mk2 (ks := []) (by first | exact .inr rfl | exact .inl rfl); (iterate 5 (focus ((repeat' (first | exact RnV.leaf rfl | exact RnC.nil | apply RnC.cons | apply RnV.ag | apply RnV.tu | exact RnV.bp rfl | exact ResL.nil | apply ResL.cons (Res1.row rfl rfl rfl rfl rfl) | apply ResL.cons (Res1.flat rfl rfl rfl rfl rfl) | apply ResL.cons (Res1.tmp (by (try simp only [List.getD_cons_succ, List.getD_cons_zero]); exact rfl)) | exact ClsC.nil | exact ClsL.nil | apply ClsC.nl | apply ClsC.leaf rfl | apply ClsC.hd rfl | apply ClsC.fn | apply ClsR.tu | apply ClsL.cons | apply ClsV.ag | exact ClsV.bp | exact ClsV.one (ClsC.leaf rfl ClsC.nil) | exact ClsV.one (ClsC.nl ClsC.nil) | exact ClsV.one (ClsC.hd rfl ClsC.nil) | apply ClsR.one | exact Out.nil | apply Out.cons rfl | exact hks_of rfl)); done))); (try dsimp only [resV, List.getD_cons_succ, List.getD_cons_zero]); ((refine ⟨?_, rfl⟩; simp at *; simp [mayCfg, *]; try omega)))
/-- what an entry, a configuration writes -/
def putE (st : Bool × List UInt8) (e : Entry) : Bool × List UInt8 := addS (addS (addS (addS (addS (addS st (intS e.pos)) (intS e.stamp)) (intS e.client)) (intS e.id)) (putS e.body.length 4)) e.body
def putR (st : Bool × List UInt8) (e : Entry) : Bool × List UInt8 := addS (addS (addS (addS (addS st (intS e.stamp)) (intS e.client)) (intS e.id)) (putS e.body.length 4)) e.body
def putM (st : Bool × List UInt8) (m : Member) : Bool × List UInt8 := addS (addS (addS st (intS m.node)) (intS m.since)) (flagS m.whole)
def putC (st : Bool × List UInt8) (c : Config) : Bool × List UInt8 := c.members.foldl putM (addS (addS st (intS c.epoch)) (intS c.members.length))
theorem putRest_ac (st : Bool × List UInt8) (e : Entry) (hst : st.2.length ≤ 65536) (hb : e.body.length ≤ 100000000) :
    AC Try.prog 39 [.bp 0 0 0, .ag (eE none e)] [wB st] (fun v bs => v = .bp 0 0 0 ∧ bs = [wB (putR st e)]) := by
  have h1 := addS_len (st := st) (b := intS e.stamp) hst
  have h2 := addS_len (b := intS e.client) h1
  have h3 := addS_len (b := intS e.id) h2
  refine AC.enter Try.func39 rfl rfl Try.ntmps39 (fl1_all rfl) (by (repeat' (first | exact Bk.nil | apply Bk.cons rfl rfl rfl))) ?_
  intro X
  simp only [nm, newS, plc, spl, bldA, bldS, zrow, chunks, ZC.val, Nat.reduceAdd, Nat.reduceSub, BEq.rfl]
  repeat' (first
    | ((first
    | ((with_reducible apply AP.k_any); first
             | (refine AP.sm false rfl ?_ ?_; focus ((repeat' (with_reducible apply And.intro)) <;> (first | exact True.intro | exact rfl | omega | (simp; omega) | (simp; done) | assumption | exact .inl rfl | (refine .inr ?_; simp; try omega))))
      )
    
    )
      <;> (try simp only [nm, newS, plc, spl, bldA, bldS, zrow, chunks, ZC.val, Nat.reduceAdd, Nat.reduceSub, BEq.rfl]))
    | ((with_reducible apply AP.k_nil); first
        | (refine AP.nil (hQ' _ ?_); clear hQ' Q')
        | refine AP.nil ?_)
    | ((with_reducible apply CP.k_reg); refine cp_regG fun Q' hQ' => ?_)
      | (with_reducible apply CP.k_reg1; refine cp_region ?_)
      | ((with_reducible apply CP.k_cond); first
          | refine cp_condT rfl ?_
          | refine cp_condF rfl ?_
          | refine cp_cond rfl (fun hc => ?_) (fun hc => ?_))
      | (with_reducible first | refine cp_block ?_ | refine cp_exit ?_ | refine cp_ret ?_ | refine cp_skip ?_ | refine cp_seq ?_ | refine inB_hit ?_ | refine inB_n ?_ | refine inB_r ?_ | refine thenQ_n ?_ | refine thenQ_r ?_ | refine thenQ_e ?_ | refine cpn_succ ?_)
      | (refine inB_miss rfl ?_)
      | (simp only [List.append_eq, List.cons_append, List.nil_append]))
  refine cp_drawI (fun zs zb => ⟨setT zs.t [(5, cond (zb.getD 0 false) (.bp 0 0 0) (.tu [])), (6, cond (zb.getD 1 false) (.bp 2 1 1) (.tu [])), (7, cond (zb.getD 2 false) (I e.stamp) (.tu [])), (8, cond (zb.getD 3 false) (.bp 0 0 0) (.tu [])), (9, cond (zb.getD 4 false) (.bp 2 1 2) (.tu [])), (10, cond (zb.getD 5 false) (I e.client) (.tu [])), (11, cond (zb.getD 6 false) (.bp 0 0 0) (.tu [])), (12, cond (zb.getD 7 false) (.bp 2 1 3) (.tu [])), (13, cond (zb.getD 8 false) (I e.id) (.tu [])), (14, cond (zb.getD 9 false) (.bp 0 0 0) (.tu [])), (15, cond (zb.getD 10 false) (.bp 2 1 4) (.tu [])), (16, cond (zb.getD 11 false) (bs none e.body) (.tu [])), (17, cond (zb.getD 12 false) (.bp 0 0 0) (.tu [])), (4, cond (zb.getD 13 false) (.bp 0 0 0) (.sc (.pointer none)))], ((zs.b.set 0 (cond (zb.getD 12 false) (⟨0, .c tW [B true, B (putR st e).1, .hd 1 5]⟩) (cond (zb.getD 9 false) (⟨0, .c tW [B true, B (addS (addS (addS st (intS e.stamp)) (intS e.client)) (intS e.id)).1, .hd 1 4]⟩) (cond (zb.getD 6 false) (⟨0, .c tW [B true, B (addS (addS st (intS e.stamp)) (intS e.client)).1, .hd 1 3]⟩) (cond (zb.getD 3 false) (⟨0, .c tW [B true, B (addS st (intS e.stamp)).1, .hd 1 2]⟩) (zs.b.getD 0 ⟨0, .x⟩)))))).set 1 (cond (zb.getD 12 false) (⟨5, .r tU 1 ((putR st e).2.map eB)⟩) (cond (zb.getD 9 false) (⟨4, .r tU 1 ((addS (addS (addS st (intS e.stamp)) (intS e.client)) (intS e.id)).2.map eB)⟩) (cond (zb.getD 6 false) (⟨3, .r tU 1 ((addS (addS st (intS e.stamp)) (intS e.client)).2.map eB)⟩) (cond (zb.getD 3 false) (⟨2, .r tU 1 ((addS st (intS e.stamp)).2.map eB)⟩) (zs.b.getD 1 ⟨0, .x⟩))))))⟩) (by kernel_rfl) (by kernel_rfl) (by kernel_rfl) ?_ ?_
  rotate_left
  simp only [cond_true, cond_false, setT, List.set_cons_succ, List.set_cons_zero, List.getD_cons_succ, List.getD_cons_zero, List.set_cons_succ, List.length_cons, List.length_nil, List.replicate_succ, List.replicate_zero, Nat.reduceAdd]
  rotate_left
  · intro b hb' hcl
    obtain ⟨l0, b0, rfl, hb0⟩ := len_cons hb'
    obtain ⟨l1, b1, rfl, hb1⟩ := len_cons hb0
    obtain ⟨l2, b2, rfl, hb2⟩ := len_cons hb1
    obtain ⟨l3, b3, rfl, hb3⟩ := len_cons hb2
    obtain ⟨l4, b4, rfl, hb4⟩ := len_cons hb3
    obtain ⟨l5, b5, rfl, hb5⟩ := len_cons hb4
    obtain ⟨l6, b6, rfl, hb6⟩ := len_cons hb5
    obtain ⟨l7, b7, rfl, hb7⟩ := len_cons hb6
    obtain ⟨l8, b8, rfl, hb8⟩ := len_cons hb7
    obtain ⟨l9, b9, rfl, hb9⟩ := len_cons hb8
    obtain ⟨l10, b10, rfl, hb10⟩ := len_cons hb9
    obtain ⟨l11, b11, rfl, hb11⟩ := len_cons hb10
    obtain ⟨l12, b12, rfl, hb12⟩ := len_cons hb11
    obtain ⟨l13, b13, rfl, hb13⟩ := len_cons hb12
    obtain rfl := List.length_eq_zero_iff.1 hb13
    clear hb' hb0 hb1 hb2 hb3 hb4 hb5 hb6 hb7 hb8 hb9 hb10 hb11 hb12 hb13
    · simp only [closedB, depsOk, Region.binds, List.toList_toArray, List.all_cons, List.all_nil, List.getD_cons_succ, List.getD_cons_zero, Bool.not_true, Bool.not_false, Bool.true_or, Bool.false_or, Bool.and_true, Bool.true_and, Bool.or_true, Bool.and_false, Bool.or_false, Bool.false_and, Bool.and_eq_true, Bool.or_eq_true, Bool.not_eq_true'] at hcl
      simp only [StepsP]
      refine ⟨?_, ?_, ?_, ?_, ?_, ?_, ?_, ?_, ?_, ?_, ?_, ?_, ?_, ?_, trivial⟩
      · intro h1 h2
        simp [depsOk, Region.binds] at h1 h2
        subst h1
        (repeat (obtain ⟨rfl, h2⟩ := h2))
        (try subst h2)
        clear hcl
        simp only [cond_true, cond_false, setT, List.set_cons_succ, List.set_cons_zero, List.getD_cons_succ, List.getD_cons_zero, List.set_cons_succ]
        (with_reducible apply AP.k_any); first | (refine AP.sm false rfl ?_ ?_; focus ((repeat' (with_reducible apply And.intro)) <;> (first | exact True.intro | exact rfl | omega | (simp; omega) | (simp; done) | assumption | exact .inl rfl | (refine .inr ?_; simp; try omega)))) | fail "no step"
        all_goals (try simp only [nm, newS, plc, spl, bldA, bldS, zrow, chunks, ZC.val, Nat.reduceAdd, Nat.reduceSub, BEq.rfl])
        refine AP.nil ?_
        exact ⟨rfl, rfl⟩
      · intro h1 h2
        simp [depsOk, Region.binds] at h1 h2
        subst h1
        (repeat (obtain ⟨rfl, h2⟩ := h2))
        (try subst h2)
        clear hcl
        simp only [cond_true, cond_false, setT, List.set_cons_succ, List.set_cons_zero, List.getD_cons_succ, List.getD_cons_zero, List.set_cons_succ]
        (with_reducible apply AP.k_any); first | (refine AP.sm false rfl ?_ ?_; focus ((repeat' (with_reducible apply And.intro)) <;> (first | exact True.intro | exact rfl | omega | (simp; omega) | (simp; done) | assumption | exact .inl rfl | (refine .inr ?_; simp; try omega)))) | fail "no step"
        all_goals (try simp only [nm, newS, plc, spl, bldA, bldS, zrow, chunks, ZC.val, Nat.reduceAdd, Nat.reduceSub, BEq.rfl])
        refine AP.nil ?_
        exact ⟨rfl, rfl⟩
      · intro h1 h2
        simp [depsOk, Region.binds] at h1 h2
        subst h1
        (repeat (obtain ⟨rfl, h2⟩ := h2))
        (try subst h2)
        (first | (obtain rfl : l3 = false := by grind only) | skip)
        (first | (obtain rfl : l6 = false := by grind only) | skip)
        (first | (obtain rfl : l9 = false := by grind only) | skip)
        (first | (obtain rfl : l12 = false := by grind only) | skip)
        clear hcl
        simp only [cond_true, cond_false, setT, List.set_cons_succ, List.set_cons_zero, List.getD_cons_succ, List.getD_cons_zero, List.set_cons_succ]
        (with_reducible apply AP.k_any); first | (refine AP.sm false rfl ?_ ?_; focus ((repeat' (with_reducible apply And.intro)) <;> (first | exact True.intro | exact rfl | omega | (simp; omega) | (simp; done) | assumption | exact .inl rfl | (refine .inr ?_; simp; try omega)))) | (refine AP.el rfl ?_ (by (first | (refine ⟨?_, ?_⟩; assumption; rfl) | exact ⟨mapAt (by (first | omega | (simp; omega) | (simp; done) | assumption)), rfl⟩ | exact ⟨rfl, rfl⟩)) ?_; focus ((repeat' (with_reducible apply And.intro)) <;> (first | exact True.intro | exact rfl | omega | (simp; omega) | (simp; done) | assumption | exact .inl rfl | (refine .inr ?_; simp; try omega)))) | fail "no step"
        all_goals (try simp only [nm, newS, plc, spl, bldA, bldS, zrow, chunks, ZC.val, Nat.reduceAdd, Nat.reduceSub, BEq.rfl])
        refine AP.nil ?_
        exact ⟨rfl, rfl⟩
      · intro h1 h2
        simp [depsOk, Region.binds] at h1 h2
        subst h1
        (repeat (obtain ⟨rfl, h2⟩ := h2))
        (try subst h2)
        (first | (obtain rfl : l6 = false := by grind only) | skip)
        (first | (obtain rfl : l9 = false := by grind only) | skip)
        (first | (obtain rfl : l12 = false := by grind only) | skip)
        clear hcl
        simp only [cond_true, cond_false, setT, List.set_cons_succ, List.set_cons_zero, List.getD_cons_succ, List.getD_cons_zero, List.set_cons_succ]
        (first
        | ((with_reducible apply AP.k_any); refine ap_callB 0 [(0, 0)] rfl rfl (fn := 40) rfl (wint_ac st e.stamp hst) (by (repeat' (first | exact PasC.nil | apply PasC.nil | apply PasC.cons | apply PasV.leaf rfl | apply PasV.nl | apply PasV.bp rfl | apply PasV.lend rfl rfl rfl | apply PasV.lend rfl rfl (ro_B _) | apply PasV.lend rfl rfl (ro_M _) | apply PasV.lend rfl rfl (ro_E _ _) | apply PasV.lend rfl rfl (ro_I _) | apply PasV.mv rfl | apply PasV.ag | apply PasV.fn | exact PasV.fs | apply PasV.any))) (by (repeat' (first | exact Out.nil | apply Out.cons rfl | exact ClsC.nil | apply ClsC.nl | apply ClsC.leaf rfl | apply ClsC.hd rfl | apply ClsC.fn | apply ClsC.fz rfl (ro_B _) | apply ClsC.fz rfl (ro_M _) | apply ClsC.fz rfl (ro_E _ _) | apply ClsC.fz rfl rfl))) rfl (by (repeat' (first | exact Bk.nil | apply Bk.cons rfl rfl rfl))) (by (repeat' (first | exact RnV.leaf rfl | exact RnC.nil | apply RnC.cons | apply RnV.ag | apply RnV.tu | exact RnV.bp rfl))) rfl ?_)
        | ((with_reducible apply AP.k_any); refine ap_callB 0 [(0, 0)] rfl rfl (fn := 40) rfl (wint_ac _ e.client h1) (by (repeat' (first | exact PasC.nil | apply PasC.nil | apply PasC.cons | apply PasV.leaf rfl | apply PasV.nl | apply PasV.bp rfl | apply PasV.lend rfl rfl rfl | apply PasV.lend rfl rfl (ro_B _) | apply PasV.lend rfl rfl (ro_M _) | apply PasV.lend rfl rfl (ro_E _ _) | apply PasV.lend rfl rfl (ro_I _) | apply PasV.mv rfl | apply PasV.ag | apply PasV.fn | exact PasV.fs | apply PasV.any))) (by (repeat' (first | exact Out.nil | apply Out.cons rfl | exact ClsC.nil | apply ClsC.nl | apply ClsC.leaf rfl | apply ClsC.hd rfl | apply ClsC.fn | apply ClsC.fz rfl (ro_B _) | apply ClsC.fz rfl (ro_M _) | apply ClsC.fz rfl (ro_E _ _) | apply ClsC.fz rfl rfl))) rfl (by (repeat' (first | exact Bk.nil | apply Bk.cons rfl rfl rfl))) (by (repeat' (first | exact RnV.leaf rfl | exact RnC.nil | apply RnC.cons | apply RnV.ag | apply RnV.tu | exact RnV.bp rfl))) rfl ?_)
        | ((with_reducible apply AP.k_any); refine ap_callB 0 [(0, 0)] rfl rfl (fn := 40) rfl (wint_ac _ e.id h2) (by (repeat' (first | exact PasC.nil | apply PasC.nil | apply PasC.cons | apply PasV.leaf rfl | apply PasV.nl | apply PasV.bp rfl | apply PasV.lend rfl rfl rfl | apply PasV.lend rfl rfl (ro_B _) | apply PasV.lend rfl rfl (ro_M _) | apply PasV.lend rfl rfl (ro_E _ _) | apply PasV.lend rfl rfl (ro_I _) | apply PasV.mv rfl | apply PasV.ag | apply PasV.fn | exact PasV.fs | apply PasV.any))) (by (repeat' (first | exact Out.nil | apply Out.cons rfl | exact ClsC.nil | apply ClsC.nl | apply ClsC.leaf rfl | apply ClsC.hd rfl | apply ClsC.fn | apply ClsC.fz rfl (ro_B _) | apply ClsC.fz rfl (ro_M _) | apply ClsC.fz rfl (ro_E _ _) | apply ClsC.fz rfl rfl))) rfl (by (repeat' (first | exact Bk.nil | apply Bk.cons rfl rfl rfl))) (by (repeat' (first | exact RnV.leaf rfl | exact RnC.nil | apply RnC.cons | apply RnV.ag | apply RnV.tu | exact RnV.bp rfl))) rfl ?_)
        | fail "no arm")
        all_goals (try simp only [nm, newS, plc, spl, bldA, bldS, zrow, chunks, ZC.val, Nat.reduceAdd, Nat.reduceSub, BEq.rfl])
        refine AP.nil ?_
        exact ⟨rfl, rfl⟩
      · intro h1 h2
        simp [depsOk, Region.binds] at h1 h2
        subst h1
        (repeat (obtain ⟨rfl, h2⟩ := h2))
        (try subst h2)
        clear hcl
        simp only [cond_true, cond_false, setT, List.set_cons_succ, List.set_cons_zero, List.getD_cons_succ, List.getD_cons_zero, List.set_cons_succ]
        (with_reducible apply AP.k_any); first | (refine AP.sm false rfl ?_ ?_; focus ((repeat' (with_reducible apply And.intro)) <;> (first | exact True.intro | exact rfl | omega | (simp; omega) | (simp; done) | assumption | exact .inl rfl | (refine .inr ?_; simp; try omega)))) | fail "no step"
        all_goals (try simp only [nm, newS, plc, spl, bldA, bldS, zrow, chunks, ZC.val, Nat.reduceAdd, Nat.reduceSub, BEq.rfl])
        refine AP.nil ?_
        exact ⟨rfl, rfl⟩
      · intro h1 h2
        simp [depsOk, Region.binds] at h1 h2
        subst h1
        (repeat (obtain ⟨rfl, h2⟩ := h2))
        (try subst h2)
        (first | (obtain rfl : l6 = false := by grind only) | skip)
        (first | (obtain rfl : l9 = false := by grind only) | skip)
        (first | (obtain rfl : l12 = false := by grind only) | skip)
        clear hcl
        simp only [cond_true, cond_false, setT, List.set_cons_succ, List.set_cons_zero, List.getD_cons_succ, List.getD_cons_zero, List.set_cons_succ]
        (with_reducible apply AP.k_any); first | (refine AP.sm false rfl ?_ ?_; focus ((repeat' (with_reducible apply And.intro)) <;> (first | exact True.intro | exact rfl | omega | (simp; omega) | (simp; done) | assumption | exact .inl rfl | (refine .inr ?_; simp; try omega)))) | (refine AP.el rfl ?_ (by (first | (refine ⟨?_, ?_⟩; assumption; rfl) | exact ⟨mapAt (by (first | omega | (simp; omega) | (simp; done) | assumption)), rfl⟩ | exact ⟨rfl, rfl⟩)) ?_; focus ((repeat' (with_reducible apply And.intro)) <;> (first | exact True.intro | exact rfl | omega | (simp; omega) | (simp; done) | assumption | exact .inl rfl | (refine .inr ?_; simp; try omega)))) | fail "no step"
        all_goals (try simp only [nm, newS, plc, spl, bldA, bldS, zrow, chunks, ZC.val, Nat.reduceAdd, Nat.reduceSub, BEq.rfl])
        refine AP.nil ?_
        exact ⟨rfl, rfl⟩
      · intro h1 h2
        simp [depsOk, Region.binds] at h1 h2
        subst h1
        (repeat (obtain ⟨rfl, h2⟩ := h2))
        (try subst h2)
        (first | (obtain rfl : l3 = true := by grind only) | skip)
        (first | (obtain rfl : l9 = false := by grind only) | skip)
        (first | (obtain rfl : l12 = false := by grind only) | skip)
        clear hcl
        simp only [cond_true, cond_false, setT, List.set_cons_succ, List.set_cons_zero, List.getD_cons_succ, List.getD_cons_zero, List.set_cons_succ]
        (first
        | ((with_reducible apply AP.k_any); refine ap_callB 0 [(0, 0)] rfl rfl (fn := 40) rfl (wint_ac st e.stamp hst) (by (repeat' (first | exact PasC.nil | apply PasC.nil | apply PasC.cons | apply PasV.leaf rfl | apply PasV.nl | apply PasV.bp rfl | apply PasV.lend rfl rfl rfl | apply PasV.lend rfl rfl (ro_B _) | apply PasV.lend rfl rfl (ro_M _) | apply PasV.lend rfl rfl (ro_E _ _) | apply PasV.lend rfl rfl (ro_I _) | apply PasV.mv rfl | apply PasV.ag | apply PasV.fn | exact PasV.fs | apply PasV.any))) (by (repeat' (first | exact Out.nil | apply Out.cons rfl | exact ClsC.nil | apply ClsC.nl | apply ClsC.leaf rfl | apply ClsC.hd rfl | apply ClsC.fn | apply ClsC.fz rfl (ro_B _) | apply ClsC.fz rfl (ro_M _) | apply ClsC.fz rfl (ro_E _ _) | apply ClsC.fz rfl rfl))) rfl (by (repeat' (first | exact Bk.nil | apply Bk.cons rfl rfl rfl))) (by (repeat' (first | exact RnV.leaf rfl | exact RnC.nil | apply RnC.cons | apply RnV.ag | apply RnV.tu | exact RnV.bp rfl))) rfl ?_)
        | ((with_reducible apply AP.k_any); refine ap_callB 0 [(0, 0)] rfl rfl (fn := 40) rfl (wint_ac _ e.client h1) (by (repeat' (first | exact PasC.nil | apply PasC.nil | apply PasC.cons | apply PasV.leaf rfl | apply PasV.nl | apply PasV.bp rfl | apply PasV.lend rfl rfl rfl | apply PasV.lend rfl rfl (ro_B _) | apply PasV.lend rfl rfl (ro_M _) | apply PasV.lend rfl rfl (ro_E _ _) | apply PasV.lend rfl rfl (ro_I _) | apply PasV.mv rfl | apply PasV.ag | apply PasV.fn | exact PasV.fs | apply PasV.any))) (by (repeat' (first | exact Out.nil | apply Out.cons rfl | exact ClsC.nil | apply ClsC.nl | apply ClsC.leaf rfl | apply ClsC.hd rfl | apply ClsC.fn | apply ClsC.fz rfl (ro_B _) | apply ClsC.fz rfl (ro_M _) | apply ClsC.fz rfl (ro_E _ _) | apply ClsC.fz rfl rfl))) rfl (by (repeat' (first | exact Bk.nil | apply Bk.cons rfl rfl rfl))) (by (repeat' (first | exact RnV.leaf rfl | exact RnC.nil | apply RnC.cons | apply RnV.ag | apply RnV.tu | exact RnV.bp rfl))) rfl ?_)
        | ((with_reducible apply AP.k_any); refine ap_callB 0 [(0, 0)] rfl rfl (fn := 40) rfl (wint_ac _ e.id h2) (by (repeat' (first | exact PasC.nil | apply PasC.nil | apply PasC.cons | apply PasV.leaf rfl | apply PasV.nl | apply PasV.bp rfl | apply PasV.lend rfl rfl rfl | apply PasV.lend rfl rfl (ro_B _) | apply PasV.lend rfl rfl (ro_M _) | apply PasV.lend rfl rfl (ro_E _ _) | apply PasV.lend rfl rfl (ro_I _) | apply PasV.mv rfl | apply PasV.ag | apply PasV.fn | exact PasV.fs | apply PasV.any))) (by (repeat' (first | exact Out.nil | apply Out.cons rfl | exact ClsC.nil | apply ClsC.nl | apply ClsC.leaf rfl | apply ClsC.hd rfl | apply ClsC.fn | apply ClsC.fz rfl (ro_B _) | apply ClsC.fz rfl (ro_M _) | apply ClsC.fz rfl (ro_E _ _) | apply ClsC.fz rfl rfl))) rfl (by (repeat' (first | exact Bk.nil | apply Bk.cons rfl rfl rfl))) (by (repeat' (first | exact RnV.leaf rfl | exact RnC.nil | apply RnC.cons | apply RnV.ag | apply RnV.tu | exact RnV.bp rfl))) rfl ?_)
        | fail "no arm")
        all_goals (try simp only [nm, newS, plc, spl, bldA, bldS, zrow, chunks, ZC.val, Nat.reduceAdd, Nat.reduceSub, BEq.rfl])
        refine AP.nil ?_
        exact ⟨rfl, rfl⟩
      · intro h1 h2
        simp [depsOk, Region.binds] at h1 h2
        subst h1
        (repeat (obtain ⟨rfl, h2⟩ := h2))
        (try subst h2)
        clear hcl
        simp only [cond_true, cond_false, setT, List.set_cons_succ, List.set_cons_zero, List.getD_cons_succ, List.getD_cons_zero, List.set_cons_succ]
        (with_reducible apply AP.k_any); first | (refine AP.sm false rfl ?_ ?_; focus ((repeat' (with_reducible apply And.intro)) <;> (first | exact True.intro | exact rfl | omega | (simp; omega) | (simp; done) | assumption | exact .inl rfl | (refine .inr ?_; simp; try omega)))) | fail "no step"
        all_goals (try simp only [nm, newS, plc, spl, bldA, bldS, zrow, chunks, ZC.val, Nat.reduceAdd, Nat.reduceSub, BEq.rfl])
        refine AP.nil ?_
        exact ⟨rfl, rfl⟩
      · intro h1 h2
        simp [depsOk, Region.binds] at h1 h2
        subst h1
        (repeat (obtain ⟨rfl, h2⟩ := h2))
        (try subst h2)
        (first | (obtain rfl : l9 = false := by grind only) | skip)
        (first | (obtain rfl : l12 = false := by grind only) | skip)
        clear hcl
        simp only [cond_true, cond_false, setT, List.set_cons_succ, List.set_cons_zero, List.getD_cons_succ, List.getD_cons_zero, List.set_cons_succ]
        (with_reducible apply AP.k_any); first | (refine AP.sm false rfl ?_ ?_; focus ((repeat' (with_reducible apply And.intro)) <;> (first | exact True.intro | exact rfl | omega | (simp; omega) | (simp; done) | assumption | exact .inl rfl | (refine .inr ?_; simp; try omega)))) | (refine AP.el rfl ?_ (by (first | (refine ⟨?_, ?_⟩; assumption; rfl) | exact ⟨mapAt (by (first | omega | (simp; omega) | (simp; done) | assumption)), rfl⟩ | exact ⟨rfl, rfl⟩)) ?_; focus ((repeat' (with_reducible apply And.intro)) <;> (first | exact True.intro | exact rfl | omega | (simp; omega) | (simp; done) | assumption | exact .inl rfl | (refine .inr ?_; simp; try omega)))) | fail "no step"
        all_goals (try simp only [nm, newS, plc, spl, bldA, bldS, zrow, chunks, ZC.val, Nat.reduceAdd, Nat.reduceSub, BEq.rfl])
        refine AP.nil ?_
        exact ⟨rfl, rfl⟩
      · intro h1 h2
        simp [depsOk, Region.binds] at h1 h2
        subst h1
        (repeat (obtain ⟨rfl, h2⟩ := h2))
        (try subst h2)
        (first | (obtain rfl : l3 = true := by grind only) | skip)
        (first | (obtain rfl : l6 = true := by grind only) | skip)
        (first | (obtain rfl : l12 = false := by grind only) | skip)
        clear hcl
        simp only [cond_true, cond_false, setT, List.set_cons_succ, List.set_cons_zero, List.getD_cons_succ, List.getD_cons_zero, List.set_cons_succ]
        (first
        | ((with_reducible apply AP.k_any); refine ap_callB 0 [(0, 0)] rfl rfl (fn := 40) rfl (wint_ac st e.stamp hst) (by (repeat' (first | exact PasC.nil | apply PasC.nil | apply PasC.cons | apply PasV.leaf rfl | apply PasV.nl | apply PasV.bp rfl | apply PasV.lend rfl rfl rfl | apply PasV.lend rfl rfl (ro_B _) | apply PasV.lend rfl rfl (ro_M _) | apply PasV.lend rfl rfl (ro_E _ _) | apply PasV.lend rfl rfl (ro_I _) | apply PasV.mv rfl | apply PasV.ag | apply PasV.fn | exact PasV.fs | apply PasV.any))) (by (repeat' (first | exact Out.nil | apply Out.cons rfl | exact ClsC.nil | apply ClsC.nl | apply ClsC.leaf rfl | apply ClsC.hd rfl | apply ClsC.fn | apply ClsC.fz rfl (ro_B _) | apply ClsC.fz rfl (ro_M _) | apply ClsC.fz rfl (ro_E _ _) | apply ClsC.fz rfl rfl))) rfl (by (repeat' (first | exact Bk.nil | apply Bk.cons rfl rfl rfl))) (by (repeat' (first | exact RnV.leaf rfl | exact RnC.nil | apply RnC.cons | apply RnV.ag | apply RnV.tu | exact RnV.bp rfl))) rfl ?_)
        | ((with_reducible apply AP.k_any); refine ap_callB 0 [(0, 0)] rfl rfl (fn := 40) rfl (wint_ac _ e.client h1) (by (repeat' (first | exact PasC.nil | apply PasC.nil | apply PasC.cons | apply PasV.leaf rfl | apply PasV.nl | apply PasV.bp rfl | apply PasV.lend rfl rfl rfl | apply PasV.lend rfl rfl (ro_B _) | apply PasV.lend rfl rfl (ro_M _) | apply PasV.lend rfl rfl (ro_E _ _) | apply PasV.lend rfl rfl (ro_I _) | apply PasV.mv rfl | apply PasV.ag | apply PasV.fn | exact PasV.fs | apply PasV.any))) (by (repeat' (first | exact Out.nil | apply Out.cons rfl | exact ClsC.nil | apply ClsC.nl | apply ClsC.leaf rfl | apply ClsC.hd rfl | apply ClsC.fn | apply ClsC.fz rfl (ro_B _) | apply ClsC.fz rfl (ro_M _) | apply ClsC.fz rfl (ro_E _ _) | apply ClsC.fz rfl rfl))) rfl (by (repeat' (first | exact Bk.nil | apply Bk.cons rfl rfl rfl))) (by (repeat' (first | exact RnV.leaf rfl | exact RnC.nil | apply RnC.cons | apply RnV.ag | apply RnV.tu | exact RnV.bp rfl))) rfl ?_)
        | ((with_reducible apply AP.k_any); refine ap_callB 0 [(0, 0)] rfl rfl (fn := 40) rfl (wint_ac _ e.id h2) (by (repeat' (first | exact PasC.nil | apply PasC.nil | apply PasC.cons | apply PasV.leaf rfl | apply PasV.nl | apply PasV.bp rfl | apply PasV.lend rfl rfl rfl | apply PasV.lend rfl rfl (ro_B _) | apply PasV.lend rfl rfl (ro_M _) | apply PasV.lend rfl rfl (ro_E _ _) | apply PasV.lend rfl rfl (ro_I _) | apply PasV.mv rfl | apply PasV.ag | apply PasV.fn | exact PasV.fs | apply PasV.any))) (by (repeat' (first | exact Out.nil | apply Out.cons rfl | exact ClsC.nil | apply ClsC.nl | apply ClsC.leaf rfl | apply ClsC.hd rfl | apply ClsC.fn | apply ClsC.fz rfl (ro_B _) | apply ClsC.fz rfl (ro_M _) | apply ClsC.fz rfl (ro_E _ _) | apply ClsC.fz rfl rfl))) rfl (by (repeat' (first | exact Bk.nil | apply Bk.cons rfl rfl rfl))) (by (repeat' (first | exact RnV.leaf rfl | exact RnC.nil | apply RnC.cons | apply RnV.ag | apply RnV.tu | exact RnV.bp rfl))) rfl ?_)
        | fail "no arm")
        all_goals (try simp only [nm, newS, plc, spl, bldA, bldS, zrow, chunks, ZC.val, Nat.reduceAdd, Nat.reduceSub, BEq.rfl])
        refine AP.nil ?_
        exact ⟨rfl, rfl⟩
      · intro h1 h2
        simp [depsOk, Region.binds] at h1 h2
        subst h1
        (repeat (obtain ⟨rfl, h2⟩ := h2))
        (try subst h2)
        clear hcl
        simp only [cond_true, cond_false, setT, List.set_cons_succ, List.set_cons_zero, List.getD_cons_succ, List.getD_cons_zero, List.set_cons_succ]
        (with_reducible apply AP.k_any); first | (refine AP.sm false rfl ?_ ?_; focus ((repeat' (with_reducible apply And.intro)) <;> (first | exact True.intro | exact rfl | omega | (simp; omega) | (simp; done) | assumption | exact .inl rfl | (refine .inr ?_; simp; try omega)))) | fail "no step"
        all_goals (try simp only [nm, newS, plc, spl, bldA, bldS, zrow, chunks, ZC.val, Nat.reduceAdd, Nat.reduceSub, BEq.rfl])
        refine AP.nil ?_
        exact ⟨rfl, rfl⟩
      · intro h1 h2
        simp [depsOk, Region.binds] at h1 h2
        subst h1
        (repeat (obtain ⟨rfl, h2⟩ := h2))
        (try subst h2)
        (first | (obtain rfl : l12 = false := by grind only) | skip)
        clear hcl
        simp only [cond_true, cond_false, setT, List.set_cons_succ, List.set_cons_zero, List.getD_cons_succ, List.getD_cons_zero, List.set_cons_succ]
        (with_reducible apply AP.k_any); first | (refine AP.sm false rfl ?_ ?_; focus ((repeat' (with_reducible apply And.intro)) <;> (first | exact True.intro | exact rfl | omega | (simp; omega) | (simp; done) | assumption | exact .inl rfl | (refine .inr ?_; simp; try omega)))) | (refine AP.el rfl ?_ (by (first | (refine ⟨?_, ?_⟩; assumption; rfl) | exact ⟨mapAt (by (first | omega | (simp; omega) | (simp; done) | assumption)), rfl⟩ | exact ⟨rfl, rfl⟩)) ?_; focus ((repeat' (with_reducible apply And.intro)) <;> (first | exact True.intro | exact rfl | omega | (simp; omega) | (simp; done) | assumption | exact .inl rfl | (refine .inr ?_; simp; try omega)))) | fail "no step"
        all_goals (try simp only [nm, newS, plc, spl, bldA, bldS, zrow, chunks, ZC.val, Nat.reduceAdd, Nat.reduceSub, BEq.rfl])
        refine AP.nil ?_
        exact ⟨rfl, rfl⟩
      · intro h1 h2
        simp [depsOk, Region.binds] at h1 h2
        subst h1
        (repeat (obtain ⟨rfl, h2⟩ := h2))
        (try subst h2)
        (first | (obtain rfl : l3 = true := by grind only) | skip)
        (first | (obtain rfl : l6 = true := by grind only) | skip)
        (first | (obtain rfl : l9 = true := by grind only) | skip)
        clear hcl
        simp only [cond_true, cond_false, setT, List.set_cons_succ, List.set_cons_zero, List.getD_cons_succ, List.getD_cons_zero, List.set_cons_succ]
        (first
        | ((with_reducible apply AP.k_any); refine ap_callB 0 [(0, 0)] rfl rfl (fn := 73) rfl (wbytes_ac _ e.body h3 hb) (by (repeat' (first | exact PasC.nil | apply PasC.nil | apply PasC.cons | apply PasV.leaf rfl | apply PasV.nl | apply PasV.bp rfl | apply PasV.lend rfl rfl rfl | apply PasV.lend rfl rfl (ro_B _) | apply PasV.lend rfl rfl (ro_M _) | apply PasV.lend rfl rfl (ro_E _ _) | apply PasV.lend rfl rfl (ro_I _) | apply PasV.mv rfl | apply PasV.ag | apply PasV.fn | exact PasV.fs | apply PasV.any))) (by (repeat' (first | exact Out.nil | apply Out.cons rfl | exact ClsC.nil | apply ClsC.nl | apply ClsC.leaf rfl | apply ClsC.hd rfl | apply ClsC.fn | apply ClsC.fz rfl (ro_B _) | apply ClsC.fz rfl (ro_M _) | apply ClsC.fz rfl (ro_E _ _) | apply ClsC.fz rfl rfl))) rfl (by (repeat' (first | exact Bk.nil | apply Bk.cons rfl rfl rfl))) (by (repeat' (first | exact RnV.leaf rfl | exact RnC.nil | apply RnC.cons | apply RnV.ag | apply RnV.tu | exact RnV.bp rfl))) rfl ?_)
        | fail "no arm")
        all_goals (try simp only [nm, newS, plc, spl, bldA, bldS, zrow, chunks, ZC.val, Nat.reduceAdd, Nat.reduceSub, BEq.rfl])
        refine AP.nil ?_
        exact ⟨rfl, rfl⟩
      · intro h1 h2
        simp [depsOk, Region.binds] at h1 h2
        subst h1
        (repeat (obtain ⟨rfl, h2⟩ := h2))
        (try subst h2)
        clear hcl
        simp only [cond_true, cond_false, setT, List.set_cons_succ, List.set_cons_zero, List.getD_cons_succ, List.getD_cons_zero, List.set_cons_succ]
        (with_reducible apply AP.k_any); first | (refine AP.sm false rfl ?_ ?_; focus ((repeat' (with_reducible apply And.intro)) <;> (first | exact True.intro | exact rfl | omega | (simp; omega) | (simp; done) | assumption | exact .inl rfl | (refine .inr ?_; simp; try omega)))) | fail "no step"
        all_goals (try simp only [nm, newS, plc, spl, bldA, bldS, zrow, chunks, ZC.val, Nat.reduceAdd, Nat.reduceSub, BEq.rfl])
        refine AP.nil ?_
        exact ⟨rfl, rfl⟩
  repeat' (first
    | ((first
    | ((with_reducible apply AP.k_any); first
             | (refine AP.sm false rfl ?_ ?_; focus ((repeat' (with_reducible apply And.intro)) <;> (first | exact True.intro | exact rfl | omega | (simp; omega) | (simp; done) | assumption | exact .inl rfl | (refine .inr ?_; simp; try omega))))
      )
    
    )
      <;> (try simp only [nm, newS, plc, spl, bldA, bldS, zrow, chunks, ZC.val, Nat.reduceAdd, Nat.reduceSub, BEq.rfl]))
    | ((with_reducible apply AP.k_nil); first
        | (refine AP.nil (hQ' _ ?_); clear hQ' Q')
        | refine AP.nil ?_)
    | ((with_reducible apply CP.k_reg); refine cp_regG fun Q' hQ' => ?_)
      | (with_reducible apply CP.k_reg1; refine cp_region ?_)
      | ((with_reducible apply CP.k_cond); first
          | refine cp_condT rfl ?_
          | refine cp_condF rfl ?_
          | refine cp_cond rfl (fun hc => ?_) (fun hc => ?_))
      | (with_reducible first | refine cp_block ?_ | refine cp_exit ?_ | refine cp_ret ?_ | refine cp_skip ?_ | refine cp_seq ?_ | refine inB_hit ?_ | refine inB_n ?_ | refine inB_r ?_ | refine thenQ_n ?_ | refine thenQ_r ?_ | refine thenQ_e ?_ | refine cpn_succ ?_)
      | (refine inB_miss rfl ?_)
      | (simp only [List.append_eq, List.cons_append, List.nil_append]))
  (apply RetQ.mk (ks := [(0, 0)]) (by first | exact .inr rfl | exact .inl rfl) (by exact ⟨rfl, rfl⟩) <;> ((repeat' (first | exact RnV.leaf rfl | exact RnC.nil | apply RnC.cons | apply RnV.ag | apply RnV.tu | exact RnV.bp rfl | exact ResL.nil | apply ResL.cons (Res1.row rfl rfl rfl rfl rfl) | apply ResL.cons (Res1.flat rfl rfl rfl rfl rfl) | apply ResL.cons (Res1.tmp (by (try simp only [List.getD_cons_succ, List.getD_cons_zero]); exact rfl)) | exact ClsC.nil | exact ClsL.nil | apply ClsC.nl | apply ClsC.leaf rfl | apply ClsC.hd rfl | apply ClsC.fn | apply ClsR.tu | apply ClsL.cons | apply ClsV.ag | exact ClsV.bp | exact ClsV.one (ClsC.leaf rfl ClsC.nil) | exact ClsV.one (ClsC.nl ClsC.nil) | exact ClsV.one (ClsC.hd rfl ClsC.nil) | apply ClsR.one | exact Out.nil | apply Out.cons rfl | exact hks_of rfl)); done))
theorem putEntry_ac (st : Bool × List UInt8) (e : Entry) (hst : st.2.length ≤ 65536) (hb : e.body.length ≤ 100000000) :
    AC Try.prog 10 [.bp 0 0 0, .ag (eE none e)] [wB st] (fun v bs => v = .bp 0 0 0 ∧ bs = [wB (putE st e)]) := by
  have h1 := addS_len (st := st) (b := intS e.pos) hst
  refine AC.enter Try.func10 rfl rfl Try.ntmps10 (fl1_all rfl) (by (repeat' (first | exact Bk.nil | apply Bk.cons rfl rfl rfl))) ?_
  intro X
  simp only [nm, newS, plc, spl, bldA, bldS, zrow, chunks, ZC.val, Nat.reduceAdd, Nat.reduceSub, BEq.rfl]
  repeat' (first
    | ((first
    | ((with_reducible apply AP.k_any); first
             | (refine AP.sm false rfl ?_ ?_; focus ((repeat' (with_reducible apply And.intro)) <;> (first | exact True.intro | exact rfl | omega | (simp; omega) | (simp; done) | assumption | exact .inl rfl | (refine .inr ?_; simp; try omega))))
      )
    
    )
      <;> (try simp only [nm, newS, plc, spl, bldA, bldS, zrow, chunks, ZC.val, Nat.reduceAdd, Nat.reduceSub, BEq.rfl]))
    | ((with_reducible apply AP.k_nil); first
        | (refine AP.nil (hQ' _ ?_); clear hQ' Q')
        | refine AP.nil ?_)
    | ((with_reducible apply CP.k_reg); refine cp_regG fun Q' hQ' => ?_)
      | (with_reducible apply CP.k_reg1; refine cp_region ?_)
      | ((with_reducible apply CP.k_cond); first
          | refine cp_condT rfl ?_
          | refine cp_condF rfl ?_
          | refine cp_cond rfl (fun hc => ?_) (fun hc => ?_))
      | (with_reducible first | refine cp_block ?_ | refine cp_exit ?_ | refine cp_ret ?_ | refine cp_skip ?_ | refine cp_seq ?_ | refine inB_hit ?_ | refine inB_n ?_ | refine inB_r ?_ | refine thenQ_n ?_ | refine thenQ_r ?_ | refine thenQ_e ?_ | refine cpn_succ ?_)
      | (refine inB_miss rfl ?_)
      | (simp only [List.append_eq, List.cons_append, List.nil_append]))
  refine cp_drawI (fun zs zb => ⟨setT zs.t [(5, cond (zb.getD 0 false) (.bp 0 0 0) (.tu [])), (6, cond (zb.getD 1 false) (.bp 2 1 0) (.tu [])), (7, cond (zb.getD 2 false) (I e.pos) (.tu [])), (8, cond (zb.getD 3 false) (.bp 0 0 0) (.tu [])), (9, cond (zb.getD 4 false) (.ag (eE none e)) (.tu [])), (10, cond (zb.getD 5 false) (.bp 0 0 0) (.tu [])), (4, cond (zb.getD 6 false) (.bp 0 0 0) (.sc (.pointer none)))], ((zs.b.set 0 (cond (zb.getD 5 false) (⟨0, .c tW [B true, B (putE st e).1, .hd 1 3]⟩) (cond (zb.getD 3 false) (⟨0, .c tW [B true, B (addS st (intS e.pos)).1, .hd 1 2]⟩) (zs.b.getD 0 ⟨0, .x⟩)))).set 1 (cond (zb.getD 5 false) (⟨3, .r tU 1 ((putE st e).2.map eB)⟩) (cond (zb.getD 3 false) (⟨2, .r tU 1 ((addS st (intS e.pos)).2.map eB)⟩) (zs.b.getD 1 ⟨0, .x⟩))))⟩) (by kernel_rfl) (by kernel_rfl) (by kernel_rfl) ?_ ?_
  rotate_left
  simp only [cond_true, cond_false, setT, List.set_cons_succ, List.set_cons_zero, List.getD_cons_succ, List.getD_cons_zero, List.set_cons_succ, List.length_cons, List.length_nil, List.replicate_succ, List.replicate_zero, Nat.reduceAdd]
  rotate_left
  · intro b hb' hcl
    obtain ⟨l0, b0, rfl, hb0⟩ := len_cons hb'
    obtain ⟨l1, b1, rfl, hb1⟩ := len_cons hb0
    obtain ⟨l2, b2, rfl, hb2⟩ := len_cons hb1
    obtain ⟨l3, b3, rfl, hb3⟩ := len_cons hb2
    obtain ⟨l4, b4, rfl, hb4⟩ := len_cons hb3
    obtain ⟨l5, b5, rfl, hb5⟩ := len_cons hb4
    obtain ⟨l6, b6, rfl, hb6⟩ := len_cons hb5
    obtain rfl := List.length_eq_zero_iff.1 hb6
    clear hb' hb0 hb1 hb2 hb3 hb4 hb5 hb6
    · simp only [closedB, depsOk, Region.binds, List.toList_toArray, List.all_cons, List.all_nil, List.getD_cons_succ, List.getD_cons_zero, Bool.not_true, Bool.not_false, Bool.true_or, Bool.false_or, Bool.and_true, Bool.true_and, Bool.or_true, Bool.and_false, Bool.or_false, Bool.false_and, Bool.and_eq_true, Bool.or_eq_true, Bool.not_eq_true'] at hcl
      simp only [StepsP]
      refine ⟨?_, ?_, ?_, ?_, ?_, ?_, ?_, trivial⟩
      · intro h1 h2
        simp [depsOk, Region.binds] at h1 h2
        subst h1
        (repeat (obtain ⟨rfl, h2⟩ := h2))
        (try subst h2)
        clear hcl
        simp only [cond_true, cond_false, setT, List.set_cons_succ, List.set_cons_zero, List.getD_cons_succ, List.getD_cons_zero, List.set_cons_succ]
        (with_reducible apply AP.k_any); first | (refine AP.sm false rfl ?_ ?_; focus ((repeat' (with_reducible apply And.intro)) <;> (first | exact True.intro | exact rfl | omega | (simp; omega) | (simp; done) | assumption | exact .inl rfl | (refine .inr ?_; simp; try omega)))) | fail "no step"
        all_goals (try simp only [nm, newS, plc, spl, bldA, bldS, zrow, chunks, ZC.val, Nat.reduceAdd, Nat.reduceSub, BEq.rfl])
        refine AP.nil ?_
        exact ⟨rfl, rfl⟩
      · intro h1 h2
        simp [depsOk, Region.binds] at h1 h2
        subst h1
        (repeat (obtain ⟨rfl, h2⟩ := h2))
        (try subst h2)
        clear hcl
        simp only [cond_true, cond_false, setT, List.set_cons_succ, List.set_cons_zero, List.getD_cons_succ, List.getD_cons_zero, List.set_cons_succ]
        (with_reducible apply AP.k_any); first | (refine AP.sm false rfl ?_ ?_; focus ((repeat' (with_reducible apply And.intro)) <;> (first | exact True.intro | exact rfl | omega | (simp; omega) | (simp; done) | assumption | exact .inl rfl | (refine .inr ?_; simp; try omega)))) | fail "no step"
        all_goals (try simp only [nm, newS, plc, spl, bldA, bldS, zrow, chunks, ZC.val, Nat.reduceAdd, Nat.reduceSub, BEq.rfl])
        refine AP.nil ?_
        exact ⟨rfl, rfl⟩
      · intro h1 h2
        simp [depsOk, Region.binds] at h1 h2
        subst h1
        (repeat (obtain ⟨rfl, h2⟩ := h2))
        (try subst h2)
        (first | (obtain rfl : l3 = false := by grind only) | skip)
        (first | (obtain rfl : l5 = false := by grind only) | skip)
        clear hcl
        simp only [cond_true, cond_false, setT, List.set_cons_succ, List.set_cons_zero, List.getD_cons_succ, List.getD_cons_zero, List.set_cons_succ]
        (with_reducible apply AP.k_any); first | (refine AP.sm false rfl ?_ ?_; focus ((repeat' (with_reducible apply And.intro)) <;> (first | exact True.intro | exact rfl | omega | (simp; omega) | (simp; done) | assumption | exact .inl rfl | (refine .inr ?_; simp; try omega)))) | (refine AP.el rfl ?_ (by (first | (refine ⟨?_, ?_⟩; assumption; rfl) | exact ⟨mapAt (by (first | omega | (simp; omega) | (simp; done) | assumption)), rfl⟩ | exact ⟨rfl, rfl⟩)) ?_; focus ((repeat' (with_reducible apply And.intro)) <;> (first | exact True.intro | exact rfl | omega | (simp; omega) | (simp; done) | assumption | exact .inl rfl | (refine .inr ?_; simp; try omega)))) | fail "no step"
        all_goals (try simp only [nm, newS, plc, spl, bldA, bldS, zrow, chunks, ZC.val, Nat.reduceAdd, Nat.reduceSub, BEq.rfl])
        refine AP.nil ?_
        exact ⟨rfl, rfl⟩
      · intro h1 h2
        simp [depsOk, Region.binds] at h1 h2
        subst h1
        (repeat (obtain ⟨rfl, h2⟩ := h2))
        (try subst h2)
        (first | (obtain rfl : l5 = false := by grind only) | skip)
        clear hcl
        simp only [cond_true, cond_false, setT, List.set_cons_succ, List.set_cons_zero, List.getD_cons_succ, List.getD_cons_zero, List.set_cons_succ]
        (first
        | ((with_reducible apply AP.k_any); refine ap_callB 0 [(0, 0)] rfl rfl (fn := 40) rfl (wint_ac st e.pos hst) (by (repeat' (first | exact PasC.nil | apply PasC.nil | apply PasC.cons | apply PasV.leaf rfl | apply PasV.nl | apply PasV.bp rfl | apply PasV.lend rfl rfl rfl | apply PasV.lend rfl rfl (ro_B _) | apply PasV.lend rfl rfl (ro_M _) | apply PasV.lend rfl rfl (ro_E _ _) | apply PasV.lend rfl rfl (ro_I _) | apply PasV.mv rfl | apply PasV.ag | apply PasV.fn | exact PasV.fs | apply PasV.any))) (by (repeat' (first | exact Out.nil | apply Out.cons rfl | exact ClsC.nil | apply ClsC.nl | apply ClsC.leaf rfl | apply ClsC.hd rfl | apply ClsC.fn | apply ClsC.fz rfl (ro_B _) | apply ClsC.fz rfl (ro_M _) | apply ClsC.fz rfl (ro_E _ _) | apply ClsC.fz rfl rfl))) rfl (by (repeat' (first | exact Bk.nil | apply Bk.cons rfl rfl rfl))) (by (repeat' (first | exact RnV.leaf rfl | exact RnC.nil | apply RnC.cons | apply RnV.ag | apply RnV.tu | exact RnV.bp rfl))) rfl ?_)
        | fail "no arm")
        all_goals (try simp only [nm, newS, plc, spl, bldA, bldS, zrow, chunks, ZC.val, Nat.reduceAdd, Nat.reduceSub, BEq.rfl])
        refine AP.nil ?_
        exact ⟨rfl, rfl⟩
      · intro h1 h2
        simp [depsOk, Region.binds] at h1 h2
        subst h1
        (repeat (obtain ⟨rfl, h2⟩ := h2))
        (try subst h2)
        (first | (obtain rfl : l5 = false := by grind only) | skip)
        clear hcl
        simp only [cond_true, cond_false, setT, List.set_cons_succ, List.set_cons_zero, List.getD_cons_succ, List.getD_cons_zero, List.set_cons_succ]
        (with_reducible apply AP.k_any); first | (refine AP.sm false rfl ?_ ?_; focus ((repeat' (with_reducible apply And.intro)) <;> (first | exact True.intro | exact rfl | omega | (simp; omega) | (simp; done) | assumption | exact .inl rfl | (refine .inr ?_; simp; try omega)))) | (refine AP.el rfl ?_ (by (first | (refine ⟨?_, ?_⟩; assumption; rfl) | exact ⟨mapAt (by (first | omega | (simp; omega) | (simp; done) | assumption)), rfl⟩ | exact ⟨rfl, rfl⟩)) ?_; focus ((repeat' (with_reducible apply And.intro)) <;> (first | exact True.intro | exact rfl | omega | (simp; omega) | (simp; done) | assumption | exact .inl rfl | (refine .inr ?_; simp; try omega)))) | fail "no step"
        all_goals (try simp only [nm, newS, plc, spl, bldA, bldS, zrow, chunks, ZC.val, Nat.reduceAdd, Nat.reduceSub, BEq.rfl])
        refine AP.nil ?_
        exact ⟨rfl, rfl⟩
      · intro h1 h2
        simp [depsOk, Region.binds] at h1 h2
        subst h1
        (repeat (obtain ⟨rfl, h2⟩ := h2))
        (try subst h2)
        (first | (obtain rfl : l3 = true := by grind only) | skip)
        clear hcl
        simp only [cond_true, cond_false, setT, List.set_cons_succ, List.set_cons_zero, List.getD_cons_succ, List.getD_cons_zero, List.set_cons_succ]
        (first
        | ((with_reducible apply AP.k_any); refine ap_callB 0 [(0, 0)] rfl rfl (fn := 39) rfl (putRest_ac _ e h1 hb) (by (repeat' (first | exact PasC.nil | apply PasC.nil | apply PasC.cons | apply PasV.leaf rfl | apply PasV.nl | apply PasV.bp rfl | apply PasV.lend rfl rfl rfl | apply PasV.lend rfl rfl (ro_B _) | apply PasV.lend rfl rfl (ro_M _) | apply PasV.lend rfl rfl (ro_E _ _) | apply PasV.lend rfl rfl (ro_I _) | apply PasV.mv rfl | apply PasV.ag | apply PasV.fn | exact PasV.fs | apply PasV.any))) (by (repeat' (first | exact Out.nil | apply Out.cons rfl | exact ClsC.nil | apply ClsC.nl | apply ClsC.leaf rfl | apply ClsC.hd rfl | apply ClsC.fn | apply ClsC.fz rfl (ro_B _) | apply ClsC.fz rfl (ro_M _) | apply ClsC.fz rfl (ro_E _ _) | apply ClsC.fz rfl rfl))) rfl (by (repeat' (first | exact Bk.nil | apply Bk.cons rfl rfl rfl))) (by (repeat' (first | exact RnV.leaf rfl | exact RnC.nil | apply RnC.cons | apply RnV.ag | apply RnV.tu | exact RnV.bp rfl))) rfl ?_)
        | fail "no arm")
        all_goals (try simp only [nm, newS, plc, spl, bldA, bldS, zrow, chunks, ZC.val, Nat.reduceAdd, Nat.reduceSub, BEq.rfl])
        refine AP.nil ?_
        exact ⟨rfl, rfl⟩
      · intro h1 h2
        simp [depsOk, Region.binds] at h1 h2
        subst h1
        (repeat (obtain ⟨rfl, h2⟩ := h2))
        (try subst h2)
        clear hcl
        simp only [cond_true, cond_false, setT, List.set_cons_succ, List.set_cons_zero, List.getD_cons_succ, List.getD_cons_zero, List.set_cons_succ]
        (with_reducible apply AP.k_any); first | (refine AP.sm false rfl ?_ ?_; focus ((repeat' (with_reducible apply And.intro)) <;> (first | exact True.intro | exact rfl | omega | (simp; omega) | (simp; done) | assumption | exact .inl rfl | (refine .inr ?_; simp; try omega)))) | fail "no step"
        all_goals (try simp only [nm, newS, plc, spl, bldA, bldS, zrow, chunks, ZC.val, Nat.reduceAdd, Nat.reduceSub, BEq.rfl])
        refine AP.nil ?_
        exact ⟨rfl, rfl⟩
  repeat' (first
    | ((first
    | ((with_reducible apply AP.k_any); first
             | (refine AP.sm false rfl ?_ ?_; focus ((repeat' (with_reducible apply And.intro)) <;> (first | exact True.intro | exact rfl | omega | (simp; omega) | (simp; done) | assumption | exact .inl rfl | (refine .inr ?_; simp; try omega))))
      )
    
    )
      <;> (try simp only [nm, newS, plc, spl, bldA, bldS, zrow, chunks, ZC.val, Nat.reduceAdd, Nat.reduceSub, BEq.rfl]))
    | ((with_reducible apply AP.k_nil); first
        | (refine AP.nil (hQ' _ ?_); clear hQ' Q')
        | refine AP.nil ?_)
    | ((with_reducible apply CP.k_reg); refine cp_regG fun Q' hQ' => ?_)
      | (with_reducible apply CP.k_reg1; refine cp_region ?_)
      | ((with_reducible apply CP.k_cond); first
          | refine cp_condT rfl ?_
          | refine cp_condF rfl ?_
          | refine cp_cond rfl (fun hc => ?_) (fun hc => ?_))
      | (with_reducible first | refine cp_block ?_ | refine cp_exit ?_ | refine cp_ret ?_ | refine cp_skip ?_ | refine cp_seq ?_ | refine inB_hit ?_ | refine inB_n ?_ | refine inB_r ?_ | refine thenQ_n ?_ | refine thenQ_r ?_ | refine thenQ_e ?_ | refine cpn_succ ?_)
      | (refine inB_miss rfl ?_)
      | (simp only [List.append_eq, List.cons_append, List.nil_append]))
  (apply RetQ.mk (ks := [(0, 0)]) (by first | exact .inr rfl | exact .inl rfl) (by exact ⟨rfl, rfl⟩) <;> ((repeat' (first | exact RnV.leaf rfl | exact RnC.nil | apply RnC.cons | apply RnV.ag | apply RnV.tu | exact RnV.bp rfl | exact ResL.nil | apply ResL.cons (Res1.row rfl rfl rfl rfl rfl) | apply ResL.cons (Res1.flat rfl rfl rfl rfl rfl) | apply ResL.cons (Res1.tmp (by (try simp only [List.getD_cons_succ, List.getD_cons_zero]); exact rfl)) | exact ClsC.nil | exact ClsL.nil | apply ClsC.nl | apply ClsC.leaf rfl | apply ClsC.hd rfl | apply ClsC.fn | apply ClsR.tu | apply ClsL.cons | apply ClsV.ag | exact ClsV.bp | exact ClsV.one (ClsC.leaf rfl ClsC.nil) | exact ClsV.one (ClsC.nl ClsC.nil) | exact ClsV.one (ClsC.hd rfl ClsC.nil) | apply ClsR.one | exact Out.nil | apply Out.cons rfl | exact hks_of rfl)); done))
end Go.Proofs.Ytpdegeknhapgmaa

namespace Go.Proofs.Ytpdegeknhapgmaa
set_option linter.unusedVariables false
set_option linter.unusedSimpArgs false
open Go.RowKit
set_option maxRecDepth 100000
theorem addS_ok {a b : List UInt8} (h : a.length + b.length ≤ 65536) : addS (false, a) b = (false, a ++ b) := by
  simp only [addS]
  rw [if_neg (by simp; omega)]
theorem putM_ok {a : List UInt8} {m : Member} (h : a.length + 17 ≤ 65536) : putM (false, a) m = (false, a ++ memF m) := by
  unfold putM
  rw [addS_ok (by rw [intS_length]; omega), addS_ok (by rw [List.length_append, intS_length, intS_length]; omega), addS_ok (by rw [List.length_append, List.length_append, intS_length, intS_length, flagS_length]; omega)]
  simp [memF, numS]
theorem foldM_ok : ∀ {l : List Member} {a : List UInt8}, a.length + 17 * l.length ≤ 65536 → l.foldl putM (false, a) = (false, a ++ (l.map memF).flatten)
  | [], a, _ => by simp
  | m :: l, a, h => by
    rw [List.length_cons] at h
    rw [List.foldl_cons, putM_ok (by omega), foldM_ok (by rw [List.length_append, memF_length]; omega)]
    simp
theorem putC_ok {a : List UInt8} {c : Config} (h : a.length + 16 + 17 * c.members.length ≤ 65536) : putC (false, a) c = (false, a ++ configF c) := by
  unfold putC
  rw [addS_ok (by rw [intS_length]; omega), addS_ok (by rw [List.length_append, intS_length, intS_length]; omega), foldM_ok (by rw [List.length_append, List.length_append, intS_length, intS_length]; omega)]
  simp [configF, numS]
theorem putR_ok {a : List UInt8} {e : Entry} (h : a.length + 28 + e.body.length ≤ 65536) : putR (false, a) e = (false, a ++ restF e) := by
  unfold putR
  rw [addS_ok (by rw [intS_length]; omega), addS_ok (by simp only [List.length_append, intS_length]; omega), addS_ok (by simp only [List.length_append, intS_length]; omega), addS_ok (by simp only [List.length_append, intS_length, putS_length]; omega), addS_ok (by simp only [List.length_append, intS_length, putS_length]; omega)]
  simp [restF, numS]
theorem putE_ok {a : List UInt8} {e : Entry} (h : a.length + 36 + e.body.length ≤ 65536) : putE (false, a) e = (false, a ++ entryF e) := by
  have : putE (false, a) e = putR (addS (false, a) (intS e.pos)) e := rfl
  rw [this, addS_ok (by rw [intS_length]; omega), putR_ok (by rw [List.length_append, intS_length]; omega)]
  simp [entryF]
end Go.Proofs.Ytpdegeknhapgmaa

namespace Go.Proofs.Ytpdegeknhapgmaa
set_option linter.unusedVariables false
set_option linter.unusedSimpArgs false
def okR (p : Int) (e : Entry) : Prop := e.pos = p ∧ I64 e.stamp ∧ I64 e.client ∧ I64 e.id ∧ e.body.length ≤ 65536
theorem cod_rest (p : Int) : Cod (restR p) restF (okR p) :=
  (((cod_int.seq (fun _ _ => cod_int) fun _ => cod_int.stk).seq (fun _ _ => cod_int) fun _ => cod_int.stk).seq (fun _ _ => cod_bytes) fun _ => cod_bytes.stk).iso
    (fun x => ⟨p, x.1.1.1, x.1.1.2, x.1.2, x.2⟩) (fun e => (((e.stamp, e.client), e.id), e.body)) (fun st => rfl)
    (fun e _ => by simp [restF, numS, bytesF']) (fun e he => ⟨⟨⟨⟨he.2.1, he.2.2.1⟩, he.2.2.2.1⟩, he.2.2.2.2⟩, by cases e; simp [okR] at he ⊢; exact he.1.symm⟩)
    fun x hx => ⟨⟨rfl, hx.1.1.1, hx.1.1.2, hx.1.2, hx.2⟩, rfl⟩
def okEn (e : Entry) : Prop := I64 e.pos ∧ I64 e.stamp ∧ I64 e.client ∧ I64 e.id ∧ e.body.length ≤ 65536
theorem cod_entry : Cod entryR entryF okEn :=
  (cod_int.seq (fun p _ => cod_rest p) fun p => (cod_rest p).stk).iso (fun x => x.2) (fun e => (e.pos, e))
    (fun st => rfl) (fun e _ => rfl) (fun e he => ⟨⟨he.1, rfl, he.2⟩, rfl⟩) fun x hx => ⟨by obtain ⟨h1, h2, h3⟩ := hx; exact ⟨by rw [h2]; exact h1, h3⟩, by obtain ⟨p, e⟩ := x; obtain ⟨h1, h2, h3⟩ := hx; dsimp only at h2 ⊢; rw [h2]⟩
def okMb (m : Member) : Prop := I64 m.node ∧ I64 m.since
theorem cod_mem : Cod memR memF okMb :=
  ((cod_int.seq (fun _ _ => cod_int) fun _ => cod_int.stk).seq (fun _ _ => cod_flag) fun _ => cod_flag.stk).iso
    (fun x => (⟨x.1.1, x.1.2, x.2⟩ : Member)) (fun m => ((m.node, m.since), m.whole)) (fun st => rfl) (fun m _ => by simp [memF, numS]) (fun m hm => ⟨⟨⟨hm.1, hm.2⟩, trivial⟩, rfl⟩) fun x hx => ⟨⟨hx.1.1, hx.1.2⟩, rfl⟩
theorem cod_nil {α : Type} (P : α → Prop) (g : α → List UInt8) : Cod (fun st : Rd => (([] : List α), st)) (fun l => (l.map g).flatten) (fun l => l.length = 0 ∧ ∀ x ∈ l, P x) where
  fwd l rest h := by obtain rfl := List.length_eq_zero_iff.1 h.1; rfl
  bwd st h := ⟨rfl, rfl, by simp⟩
  stk st h := h
theorem cod_mems : ∀ n, Cod (memsR n) (fun l => (l.map memF).flatten) (fun l => l.length = n ∧ ∀ m ∈ l, okMb m)
  | 0 => cod_nil okMb memF
  | n + 1 => (cod_mem.seq (fun _ _ => cod_mems n) fun _ => (cod_mems n).stk).iso (fun x => x.1 :: x.2) (fun l => (l.headD ⟨0, 0, false⟩, l.tail)) (fun st => rfl)
      (fun l hl => by cases l with | nil => simp at hl | cons m l => simp) (fun l hl => by cases l with
        | nil => simp at hl
        | cons m l => exact ⟨⟨hl.2 m (by simp), by simpa using hl.1, fun x hx => hl.2 x (by simp at hx; simp [hx])⟩, rfl⟩) fun x hx => ⟨⟨by simpa using hx.2.1, fun m hm => by
          rcases List.mem_cons.1 hm with rfl | hm
          · exact hx.1
          · exact hx.2.2 m hm⟩, rfl⟩
/-- entries from a position on -/
def okPos (p : Int) : Nat → List Entry → Prop
  | _, [] => True
  | i, e :: l => okR (IntKind.i64.wrap (p + i)) e ∧ okPos p (i + 1) l
theorem count_fwd {m : Int} {n : Nat} {rest : List UInt8} (h1 : (n : Int) ≤ m) (h2 : n ≤ rest.length) (h3 : m ≤ 1000) : countR m (0, intS n ++ rest) = ((n : Int), (0, rest)) := by
  have hi : I64 (n : Int) := by unfold I64; omega
  have hl : leftR (0, intS n ++ rest) - 8 = (rest.length : Int) := by simp [leftR, intS_length]; omega
  have := takeS_fwd (z := (0 : Int)) (f := countG m (leftR (0, intS n ++ rest) - 8)) (n := 8) (b := intS n) (rest := rest) (intS_length _) (by
    simp only [countG, beN_intS, toI_u _ hi, hl]; simp; omega)
  rw [show ((8 : Nat) : Int) = 8 from rfl] at this
  rw [countR, this, countG, beN_intS, toI_u _ hi]
theorem count_bwd {m : Int} {st : Rd} (h : (countR m st).2.1 = 0) : st.2 = intS (countR m st).1 ++ (countR m st).2.2 ∧ 0 ≤ (countR m st).1 ∧ (countR m st).1 ≤ m := by
  unfold countR at h ⊢
  obtain ⟨h1, h2, h3, h4⟩ := takeS_zero (n := 8) (f := countG m (leftR st - 8)) (z := (0 : Int)) (st := st) h
  rw [show ((8 : Nat) : Int) = 8 from rfl] at h4
  rw [h4]
  have hl : (st.2.take 8).length = 8 := by simp; omega
  have hlt := beN_lt (st.2.take 8)
  rw [hl] at hlt
  simp only [countG, Bool.and_eq_true, decide_eq_true_eq] at h3 ⊢
  refine ⟨?_, h3.1.1, h3.1.2⟩
  rw [intS_toI _ (by simpa using hlt), putS_beN hl, List.take_append_drop]
theorem count_stk {m : Int} {st : Rd} (h : st.1 ≠ 0) : (countR m st).2.1 ≠ 0 := takeS_stk h
/-- a number of things, and these -/
def cntR {α : Type} (m : Int) (el : Nat → Rd → List α × Rd) (st : Rd) : List α × Rd := el (countR m st).1.toNat (countR m st).2
theorem cod_cnt {α : Type} {m : Int} {el : Nat → Rd → List α × Rd} {gl : List α → List UInt8} {ok : List α → Prop} (hm : m ≤ 1000) (h : ∀ n, Cod (el n) gl (fun l => l.length = n ∧ ok l)) (hl : ∀ l, ok l → l.length ≤ (gl l).length) :
    Cod (cntR m el) (fun l => intS l.length ++ gl l) (fun l => (l.length : Int) ≤ m ∧ ok l) where
  fwd l rest hk := by
    unfold cntR
    rw [List.append_assoc, count_fwd hk.1 (by rw [List.length_append]; have := hl l hk.2; omega) hm]
    dsimp only
    rw [Int.toNat_natCast]
    exact (h l.length).fwd l rest ⟨rfl, hk.2⟩
  bwd st h0 := by
    unfold cntR at h0 ⊢
    have hz : (countR m st).2.1 = 0 := by
      by_cases h1 : (countR m st).2.1 = 0
      · exact h1
      · exact absurd h0 ((h _).stk _ h1)
    obtain ⟨a1, a2, a3⟩ := count_bwd hz
    obtain ⟨b1, b2, b3⟩ := (h _).bwd _ h0
    have e : (((el (countR m st).1.toNat (countR m st).2).1.length : Nat) : Int) = (countR m st).1 := by rw [b2]; omega
    rw [e]
    exact ⟨by rw [List.append_assoc, ← b1]; exact a1, a3, b3⟩
  stk st h0 := (h _).stk _ (count_stk h0)
theorem flat_len {α : Type} {g : α → List UInt8} (h : ∀ x, 1 ≤ (g x).length) : ∀ l : List α, l.length ≤ ((l.map g).flatten).length
  | [] => by simp
  | x :: l => by have := flat_len h l; have := h x; simp at *; omega
def okCf (c : Config) : Prop := I64 c.epoch ∧ c.members.length ≤ 5 ∧ ∀ m ∈ c.members, okMb m
theorem cod_config : Cod configR configF okCf :=
  (cod_int.seq (fun _ _ => cod_cnt (m := 5) (by omega) cod_mems fun l _ => flat_len (fun m => by rw [memF_length]; omega) l) fun _ => (cod_cnt (m := 5) (by omega) cod_mems fun l _ => flat_len (fun m => by rw [memF_length]; omega) l).stk).iso
    (fun x => ⟨x.1, x.2⟩) (fun c => (c.epoch, c.members)) (fun st => rfl) (fun c _ => by simp [configF, numS]) (fun c hc => ⟨⟨hc.1, by have := hc.2.1; dsimp only; omega, hc.2.2⟩, rfl⟩) fun x hx => ⟨⟨hx.1, by have := hx.2.1; dsimp only at this ⊢; omega, hx.2.2⟩, rfl⟩
end Go.Proofs.Ytpdegeknhapgmaa

namespace Go.Proofs.Ytpdegeknhapgmaa
set_option linter.unusedVariables false
set_option linter.unusedSimpArgs false
open Go.RowKit
set_option maxRecDepth 100000

def inN (n : Nat) : List Nat → Bool
  | [] => false
  | m :: l => match n == m with
    | true => true
    | false => inN n l
/-- the slots rs alone -/
def msT (rs : List Nat) : Nat → List AV → List AV
  | _, [] => []
  | n, a :: l => (match inN n rs with | true => a | false => .de) :: msT rs (n + 1) l
/-- the numbers F alone -/
def msB (F : List Nat) (V : Nat → Nat) : Nat → List Sl → List Sl
  | _, [] => []
  | n, e :: l => (match inN n F with | true => e | false => ⟨V n, .o⟩) :: msB F V (n + 1) l
/-- what was walked, put into a state -/
inductive Mg (F : List Nat) (V : Nat → Nat) : Nat → List Sl → List Sl → List Sl → Prop
  | nil {n} : Mg F V n [] [] []
  | keep {n e l l1 l2} : inN n F = false → Mg F V (n + 1) l l1 l2 → Mg F V n (e :: l) (⟨V n, .o⟩ :: l1) (e :: l2)
  | take {n e e' l l1 l2} : inN n F = true → Mg F V (n + 1) l l1 l2 → Mg F V n (e :: l) (e' :: l1) (e' :: l2)
def dput (d : Option Nat) (av : AV) (t : List AV) : List AV :=
  match d with
  | some d => t.set d av
  | none => t
def gtv (d : Option Nat) (t : List AV) (av : AV) : Prop :=
  match d with
  | some d => d < t.length → t[d]? = some av
  | none => True
def ovB (F : List Nat) : Nat → List Sl → List Sl → List Sl
  | n, e2 :: l2, e :: l => (match inN n F with | true => e2 | false => e) :: ovB F (n + 1) l2 l
  | _, _, l => l
theorem msT_at {rs : List Nat} : ∀ {l : List AV} {n i : Nat}, (msT rs n l)[i]? = (l[i]?).map fun a => match inN (n + i) rs with | true => a | false => .de
  | [], n, i => by simp [msT]
  | a :: l, n, 0 => by simp [msT]
  | a :: l, n, i + 1 => by
    have := msT_at (rs := rs) (l := l) (n := n + 1) (i := i)
    simp only [msT, List.getElem?_cons_succ, this, show n + 1 + i = n + (i + 1) by omega]
theorem msB_at {F : List Nat} {V : Nat → Nat} : ∀ {l : List Sl} {n i : Nat}, (msB F V n l)[i]? = (l[i]?).map fun e => match inN (n + i) F with | true => e | false => ⟨V (n + i), .o⟩
  | [], n, i => by simp [msB]
  | a :: l, n, 0 => by simp [msB]
  | a :: l, n, i + 1 => by
    have := msB_at (F := F) (V := V) (l := l) (n := n + 1) (i := i)
    simp only [msB, List.getElem?_cons_succ, this, show n + 1 + i = n + (i + 1) by omega]
theorem msT_len {rs : List Nat} : ∀ {l : List AV} {n : Nat}, (msT rs n l).length = l.length
  | [], _ => rfl
  | _ :: l, n => by simp [msT, msT_len (l := l)]
theorem msB_len {F : List Nat} {V : Nat → Nat} : ∀ {l : List Sl} {n : Nat}, (msB F V n l).length = l.length
  | [], _ => rfl
  | _ :: l, n => by simp [msB, msB_len (l := l)]
theorem ovB_len {F : List Nat} : ∀ {l2 l : List Sl} {n : Nat}, (ovB F n l2 l).length = l.length
  | [], l, _ => by simp [ovB]
  | _ :: l2, [], _ => by simp [ovB]
  | _ :: l2, _ :: l, n => by simp [ovB, ovB_len (l2 := l2) (l := l)]
theorem ovB_at {F : List Nat} : ∀ {l2 l : List Sl} {n i : Nat}, l2.length = l.length → (ovB F n l2 l)[i]? = match inN (n + i) F with | true => l2[i]? | false => l[i]?
  | [], [], n, i, _ => by simp [ovB]; split <;> rfl
  | [], _ :: _, _, _, h => by simp at h
  | _ :: _, [], _, _, h => by simp at h
  | e2 :: l2, e :: l, n, 0, h => by simp only [ovB, List.getElem?_cons_zero, Nat.add_zero]; split <;> rfl
  | e2 :: l2, e :: l, n, i + 1, h => by
    have := ovB_at (F := F) (l2 := l2) (l := l) (n := n + 1) (i := i) (by simpa using h)
    simp only [ovB, List.getElem?_cons_succ, this, show n + 1 + i = n + (i + 1) by omega]
theorem Mg.len {F : List Nat} {V : Nat → Nat} {n : Nat} {l l1 l2 : List Sl} (h : Mg F V n l l1 l2) : l1.length = l.length ∧ l2.length = l.length := by
  induction h with
  | nil => exact ⟨rfl, rfl⟩
  | keep _ _ ih => simp [ih.1, ih.2]
  | take _ _ ih => simp [ih.1, ih.2]
theorem Mg.at_ {F : List Nat} {V : Nat → Nat} {n : Nat} {l l1 l2 : List Sl} (h : Mg F V n l l1 l2) : ∀ i, (inN (n + i) F = true → l2[i]? = l1[i]?) ∧ (inN (n + i) F = false → l2[i]? = l[i]? ∧ l1[i]? = (l[i]?).map fun _ => ⟨V (n + i), .o⟩) := by
  induction h with
  | nil => intro i; simp
  | keep h0 _ ih =>
    intro i
    cases i with
    | zero => simp [h0]
    | succ i => have := ih i; simpa [show ∀ n, n + 1 + i = n + (i + 1) by omega] using this
  | take h0 _ ih =>
    intro i
    cases i with
    | zero => simp [h0]
    | succ i => have := ih i; simpa [show ∀ n, n + 1 + i = n + (i + 1) by omega] using this
section
variable {P : Program} {X : Cx} {φ φ' : Fi} {κ κ' : Ka} {f : Nat → Ct} {L : Ct} {s : AS} {a : Act} {w w' : World} {ops : Array Oper} {o : Oper}
/-- an operation turns its own slot alone -/
theorem wpList_slot {Q : Exit → Act → World → Prop} (hK : ∀ e a w, Q e a w → e = .normal) (h : wpList P ops Q [o] a w) :
    wpList P ops (fun e a' w' => Q e a' w' ∧ ∃ v, a'.tmps = (a.put o.dst v).tmps) [o] a w := by
  unfold wpList at *
  split
  · rename_i hw
    rw [if_pos hw] at h
    refine .inl ?_
    rcases h with h | ⟨_, a', w', h'⟩
    · unfold Oper.wp at *
      generalize (execOp a.eval o).run P w = r at *
      cases r with
      | ok n w' =>
        cases n <;> simp only [Oper.upon] at h ⊢
        case value v => exact ⟨h, v, rfl⟩
        case skip => exact ⟨h, _, rfl⟩
        case defer d => exact ⟨h, undef, by cases o.dst <;> rfl⟩
        all_goals first
          | exact h
          | exact Calls.mono h fun e w'' he => by
              cases e with
              | returned u => exact ⟨he, u, rfl⟩
              | panicked c => cases hK _ _ _ he
              | outgrown => (obtain ⟨a', w', h'⟩ := he; cases hK _ _ _ h')
          | exact Rows.mono h fun u w'' he => ⟨he, u, rfl⟩
      | halt x w' =>
        cases x <;> simp only [Oper.upon] at h ⊢
        case panic u => cases hK _ _ _ h
    · cases hK _ _ _ h'
  · rename_i hw
    rw [if_neg hw] at h
    exact ⟨h, undef, rfl⟩
theorem wpList_mono1 {Q Q' : Exit → Act → World → Prop} (hK : ∀ e a w, Q e a w → e = .normal) (hQ : ∀ e a w, Q e a w → Q' e a w) (h : wpList P ops Q [o] a w) : wpList P ops Q' [o] a w := by
  unfold wpList at *
  split
  · rename_i hw
    rw [if_pos hw] at h
    refine .inl ?_
    rcases h with h | ⟨_, a', w', h'⟩
    · unfold Oper.wp at *
      generalize (execOp a.eval o).run P w = r at *
      cases r with
      | ok n w' =>
        cases n <;> simp only [Oper.upon] at h ⊢
        case value v => exact hQ _ _ _ h
        case skip => exact hQ _ _ _ h
        case defer d => exact hQ _ _ _ h
        all_goals first
          | exact h
          | exact Calls.mono h fun e w'' he => by
              cases e with
              | returned u => exact hQ _ _ _ he
              | panicked c => cases hK _ _ _ he
              | outgrown => (obtain ⟨a', w', h'⟩ := he; cases hK _ _ _ h')
          | exact Rows.mono h fun u w'' he => hQ _ _ _ he
      | halt x w' =>
        cases x <;> simp only [Oper.upon] at h ⊢
        case panic u => cases hK _ _ _ h
    · cases hK _ _ _ h'
  · rename_i hw
    rw [if_neg hw] at h
    exact hQ _ _ _ h
theorem sumF_part {p : Nat → Bool} {f : Nat → Ct} (x : Nat) : ∀ n, sumF f n x = sumF (fun i => if p i then f i else Ct.z) n x + sumF (fun i => if p i then Ct.z else f i) n x
  | 0 => rfl
  | n + 1 => by
    simp only [sumF]
    have := sumF_part (p := p) (f := f) x n
    cases p n <;> simp [Ct.z] <;> omega
theorem sumF_at {f : Nat → Ct} {x : Nat} : ∀ {n : Nat}, sumF f n x ≠ 0 → ∃ i, i < n ∧ f i x ≠ 0
  | 0, h => absurd rfl h
  | n + 1, h => by
    by_cases h1 : f n x = 0
    · obtain ⟨i, h2, h3⟩ := sumF_at (f := f) (x := x) (n := n) (by simpa [sumF, h1] using h)
      exact ⟨i, by omega, h3⟩
    · exact ⟨n, by omega, h1⟩
/-- what an operation does with what it touches -/
def FStep (P : Program) (ops : Array Oper) (o : Oper) (s : AS) (rs F : List Nat) (av : AV) (b2 : List Sl) : Prop :=
  ∀ X s', s'.t.length = s.t.length → s'.b.length = s.b.length → (∀ i, inN i rs = true → s'.t[i]? = s.t[i]?) → (∀ j, inN j F = true → s'.b[j]? = s.b[j]?) →
    AP P X ops (fun e s'' => e = .normal ∧ s'' = ⟨dput o.dst av s'.t, ovB F 0 b2 s'.b⟩) [o] s'
theorem RC.pt {R : Nat → Prop} {l : List AV} {us : List Value} (h : RC w φ κ R l us Ct.z) {i : Nat} {a : AV} (hi : l[i]? = some a) : ∃ v, us[i]? = some v ∧ RV w φ κ R a v Ct.z := h.at_ hi
theorem frame {rs F : List Nat} {av : AV} {b2 : List Sl} (h : ∀ X V, AP P X ops (fun e s' => e = .normal ∧ s'.t.length = s.t.length ∧ gtv o.dst s'.t av ∧ Mg F V 0 s.b s'.b b2) [o] ⟨msT rs 0 s.t, msB F V 0 s.b⟩) : FStep P ops o s rs F av b2 := by
  intro X s' hlt hlb hrs hF a w hsat
  obtain ⟨X1, φ, κ, f, hX1, hs⟩ := hsat
  let V : Nat → Nat := fun j => (s'.b.getD j ⟨0, .x⟩).u
  have hV : ∀ (j : Nat) (e : Sl), s'.b[j]? = some e → V j = e.u := fun j e he => by simp [V, List.getD_eq_getElem?_getD, he]
  let f0 : Nat → Ct := fun i => if inN i F then f i else Ct.z
  let f1 : Nat → Ct := fun i => if inN i F then Ct.z else f i
  have hpart : ∀ x, sumF f s'.b.length x = sumF f0 s'.b.length x + sumF f1 s'.b.length x := fun x => sumF_part x _
  have hone : ∀ x, sumF f0 s'.b.length x + sumF f1 s'.b.length x ≤ 1 := fun x => by have := hs.one x; rw [← hpart]; simp only [Ct.z] at this; omega
  have hown : ∀ x, sumF f0 s'.b.length x + sumF f1 s'.b.length x ≠ 0 → x < w.heap.size ∧ (X1.S0 x ≠ 0 ∨ X1.w0.heap.size ≤ x) := fun x hx => hs.own x (by rw [hpart]; simp only [Ct.z]; omega)
  have hrd : ∀ x, X1.R x → x < w.heap.size ∧ sumF f0 s'.b.length x = 0 ∧ sumF f1 s'.b.length x = 0 := fun x hx => by
    have := hs.rd x hx; rw [hpart] at this; exact ⟨this.1, by omega, by omega⟩
  have hbl : ∀ j : Nat, (msB F V 0 s.b)[j]? = (s'.b[j]?).map fun e => match inN j F with | true => e | false => ⟨V j, .o⟩ := fun j => by
    rw [msB_at, Nat.zero_add]
    cases hj : inN j F with
    | true => rw [hF j hj]
    | false =>
      by_cases hjl : j < s.b.length
      · rw [List.getElem?_eq_getElem hjl, List.getElem?_eq_getElem (by omega)]; rfl
      · rw [List.getElem?_eq_none (by omega), List.getElem?_eq_none (by omega), Option.map_none]
  have h0 : SatW ⟨X1.R, w, sumF f0 s'.b.length, [], φ, κ⟩ φ κ f0 Ct.z ⟨msT rs 0 s.t, msB F V 0 s.b⟩ a w :=
    { tm := RC.of_at (by have := hs.tm.length; rw [msT_len]; omega) fun i x hi => by
        rw [msT_at, Nat.zero_add] at hi
        obtain ⟨y, hy, rfl⟩ := Option.map_eq_some_iff.1 hi
        cases hr : inN i rs with
        | true =>
          have := hrs i hr
          exact hs.tm.at_ (by rw [this, hy])
        | false =>
          have hil : i < s'.t.length := by rw [hlt]; exact (List.getElem?_eq_some_iff.1 hy).1
          obtain ⟨v, hv, _⟩ := hs.tm.at_ (List.getElem?_eq_getElem hil)
          exact ⟨v, hv, .de⟩
      df := hs.df
      sl := fun i e hi => by
        rw [hbl] at hi
        obtain ⟨y, hy, rfl⟩ := Option.map_eq_some_iff.1 hi
        cases hr : inN i F with
        | true => simpa [f0, hr] using hs.sl i y hy
        | false => simpa [f0, hr] using RS.o
      one := fun x => by rw [msB_len, ← hlb]; have := hone x; simp only [Ct.z]; omega
      own := fun x hx => by
        rw [msB_len, ← hlb] at hx
        simp only [Ct.z] at hx
        exact ⟨(hown x (by omega)).1, .inl (by dsimp only; omega)⟩
      rd := fun x hx => by rw [msB_len, ← hlb]; have := hrd x hx; exact ⟨this.1, by simp only [Ct.z]; omega⟩
      fr := Fr.refl _ _
      bas := ⟨(fun i g hi => by simp at hi), (fun _ _ _ h => h), fun _ _ _ h => h⟩
      new := fun i v hv => hs.new i v fun e he => by
        have := hv (match inN i F with | true => e | false => ⟨V i, .o⟩) (by rw [hbl, he]; rfl)
        cases hr : inN i F with
        | true => rw [hr] at this; exact this
        | false => rw [hr] at this; rw [← hV i e he]; exact this }
  have hap := wpList_slot (fun e a w ⟨s', h, _⟩ => h.1) (h _ V a w ⟨_, φ, κ, f0, .rfl, h0⟩)
  refine wpList_mono1 (fun e a w ⟨⟨s', h, _⟩, _⟩ => h.1) ?_ hap
  rintro e a' w' ⟨⟨s1, ⟨he, hl1, hgt, hmg⟩, X3, φ3, κ3, f3, hX3, hs3⟩, v0, htm⟩
  obtain ⟨hlm1, hlm2⟩ := hmg.len
  have hmat := hmg.at_
  simp only [Nat.zero_add] at hmat
  have hp3 : X3.p0 = φ := hX3.p0
  have hq3 : X3.q0 = κ := hX3.q0
  have hw3 : X3.w0 = w := hX3.w0
  have hS3 : X3.S0 = sumF f0 s'.b.length := hX3.S0
  have hφ : ∀ b u g, φ b u = some g → φ3 b u = some g := fun b u g hg => hs3.bas.2.1 b u g (by rw [hp3]; exact hg)
  have hκ : ∀ b u v, κ b u = some v → κ3 b u = some v := fun b u g hg => hs3.bas.2.2 b u g (by rw [hq3]; exact hg)
  have hfr : Fr w w' (sumF f0 s'.b.length) := by have := hs3.fr; rwa [hw3, hS3] at this
  have hsz := hfr.size
  have hR : ∀ x, X1.R x → w'.heap[x]? = w.heap[x]? := fun x hx => hfr.block x (hrd x hx).1 (hrd x hx).2.1
  have hup : ∀ x, X1.R x → X3.R x := hX3.up
  have hO : ∀ i, i < s'.b.length → inN i F = false → ∀ x, f i x ≠ 0 → w'.heap[x]? = w.heap[x]? := fun i hi hn x hx => by
    have h1 := sumF_le f1 x _ i hi
    have h2 : f1 i x = f i x := by simp [f1, hn]
    have h3 := hone x
    exact hfr.block x (hown x (by omega)).1 (by omega)
  let g3 : Nat → Ct := fun i => if inN i F then f3 i else Ct.z
  let f4 : Nat → Ct := fun i => if inN i F then f3 i else f i
  have hp4 : ∀ x, sumF f4 s'.b.length x = sumF g3 s'.b.length x + sumF f1 s'.b.length x := fun x => by
    have h1 := sumF_part (p := fun i => inN i F) (f := f4) x s'.b.length
    have e1 : (fun i => if inN i F = true then f4 i else Ct.z) = g3 := funext fun i => by simp only [f4, g3]; split <;> rfl
    have e2 : (fun i => if inN i F = true then Ct.z else f4 i) = f1 := funext fun i => by simp only [f4, f1]; split <;> rfl
    rw [e1, e2] at h1; exact h1
  have hg3 : ∀ x, sumF g3 s'.b.length x ≤ sumF f3 s'.b.length x := fun x => sumF_mono (fun i x => by simp only [g3]; split <;> simp [Ct.z]) x _
  have h1b : s1.b.length = s'.b.length := by omega
  have hone3 : ∀ x, sumF f3 s'.b.length x ≤ 1 := fun x => by have := hs3.one x; rw [h1b] at this; simp only [Ct.z] at this; omega
  have hown3 : ∀ x, sumF f3 s'.b.length x ≠ 0 → x < w'.heap.size ∧ (sumF f0 s'.b.length x ≠ 0 ∨ w.heap.size ≤ x) := fun x hx => by
    have := hs3.own x (by rw [h1b]; simp only [Ct.z]; omega)
    rwa [hS3, hw3] at this
  have hdis : ∀ x, sumF f1 s'.b.length x ≠ 0 → sumF f3 s'.b.length x = 0 := fun x hx => by
    have h1 := hown3 x
    have h2 := hown x (by omega)
    have h3 := hone x
    omega
  have hdn : ∀ x, X3.R x → X1.R x ∨ sumF f0 s'.b.length x ≠ 0 ∨ w.heap.size ≤ x := fun x hx => hX3.dn x hx
  refine ⟨⟨dput o.dst av s'.t, ovB F 0 b2 s'.b⟩, ⟨he, rfl⟩, ⟨X3.R, X1.w0, X1.S0, X1.g0, X1.p0, X1.q0⟩, φ3, κ3, f4, hX1.trans ⟨rfl, rfl, rfl, rfl, rfl, hup, fun x hx => ?_⟩, ?_⟩
  · rcases hdn x hx with h1 | h1 | h1
    · exact .inl h1
    · exact .inr (hown x (by omega)).2
    · have := hs.fr.size; exact .inr (.inr (by omega))
  have hb4 : ∀ i : Nat, (ovB F 0 b2 s'.b)[i]? = match inN i F with | true => b2[i]? | false => s'.b[i]? := fun i => by
    rw [ovB_at (by omega), Nat.zero_add]
  exact
    { tm := RC.of_at (by
        have h1 := hs3.tm.length
        have h2 : (dput o.dst av s'.t).length = s'.t.length := by unfold dput; split <;> simp
        show a'.tmps.toList.length = (dput o.dst av s'.t).length
        rw [h1, h2, hl1, hlt]) fun i x hi => by
        have hkeep : ∀ y, s'.t[i]? = some y → (∀ d, o.dst = some d → d ≠ i) → ∃ v, a'.tmps.toList[i]? = some v ∧ RV w' φ3 κ3 X3.R y v Ct.z := fun y hy hd => by
          obtain ⟨v, hv, hr⟩ := hs.tm.at_ hy
          refine ⟨v, ?_, RV.hist hφ hκ hup (RV.keep hR hr fun b hb => absurd rfl hb)⟩
          rw [htm]
          unfold Act.put
          cases ho : o.dst with
          | none => exact hv
          | some d => simp only [Array.toList_setIfInBounds]; rw [List.getElem?_set_ne (hd d ho)]; exact hv
        unfold dput at hi
        cases ho : o.dst with
        | none => rw [ho] at hi; exact hkeep x hi fun d hd => by rw [ho] at hd; cases hd
        | some d =>
          rw [ho] at hi
          dsimp only at hi
          by_cases hdi : d = i
          · subst hdi
            rw [List.getElem?_set] at hi
            simp only [if_true] at hi
            split at hi
            · rename_i hdl
              injection hi with hi; subst hi
              rw [ho] at hgt
              simp only [gtv] at hgt
              have hdl1 : d < s1.t.length := by rw [hl1, ← hlt]; exact hdl
              have : s1.t[d]? = some av := hgt hdl1
              exact hs3.tm.at_ this
            · cases hi
          · rw [List.getElem?_set_ne hdi] at hi
            exact hkeep x hi fun d' hd' => by rw [ho] at hd'; injection hd' with hd'; subst hd'; exact hdi
      df := hs3.df
      sl := fun i e hi => by
        rw [hb4] at hi
        cases hr : inN i F with
        | true =>
          rw [hr] at hi
          dsimp only at hi
          rw [(hmat i).1 hr] at hi
          simpa [f4, hr] using hs3.sl i e hi
        | false =>
          rw [hr] at hi
          dsimp only at hi
          have hil := (List.getElem?_eq_some_iff.1 hi).1
          have := RS.rmono hup (RS.hist hφ hκ (RS.keep hR (hs.sl i e hi) (hO i hil hr)))
          simpa [f4, hr] using this
      one := fun x => by
        rw [ovB_len, hp4]
        have h1 := hg3 x
        have h2 := hone3 x
        have h3 := hone x
        have h4 := hdis x
        simp only [Ct.z]; omega
      own := fun x hx => by
        rw [ovB_len, hp4] at hx
        simp only [Ct.z] at hx
        by_cases h1 : sumF f1 s'.b.length x = 0
        · have h2 := hg3 x
          have h3 := hown3 x (by omega)
          refine ⟨h3.1, ?_⟩
          rcases h3.2 with h4 | h4
          · exact (hown x (by omega)).2
          · have := hs.fr.size; exact .inr (by dsimp only; omega)
        · have := hown x (by omega); exact ⟨by omega, this.2⟩
      rd := fun x hx => by
        rw [ovB_len, hp4]
        have h1 := hs3.rd x hx
        rw [h1b] at h1
        have h2 := hg3 x
        have h3 : sumF f1 s'.b.length x = 0 := by
          rcases hdn x hx with h4 | h4 | h4
          · exact (hrd x h4).2.2
          · have := hone x; omega
          · have := hown x; omega
        exact ⟨h1.1, by simp only [Ct.z] at *; omega⟩
      fr := by
        have h1 := hs.fr
        refine ⟨hfr.os.trans h1.os, hfr.tape.trans h1.tape, hfr.output.trans h1.output, Nat.le_trans h1.size hfr.size, fun b hb hS => ?_⟩
        have h2 := hown b
        have h5 := hone b
        rw [hfr.block b (Nat.lt_of_lt_of_le hb h1.size) (by dsimp only at hb hS; omega)]
        exact h1.block b hb hS
      bas := ⟨fun i g hi => hφ _ _ _ (hs.bas.1 i g hi), fun b u g hi => hφ _ _ _ (hs.bas.2.1 b u g hi), fun b u g hi => hκ _ _ _ (hs.bas.2.2 b u g hi)⟩
      new := fun i v hv => hs3.new i v fun e he => by
        cases hr : inN i F with
        | true =>
          refine hv e ?_
          rw [hb4, hr]
          dsimp only
          rw [(hmat i).1 hr]; exact he
        | false =>
          have h1 := (hmat i).2 hr
          rw [h1.2] at he
          obtain ⟨y, hy, rfl⟩ := Option.map_eq_some_iff.1 he
          have hil : i < s'.b.length := by rw [hlb]; exact (List.getElem?_eq_some_iff.1 hy).1
          have h2 := hv (s'.b[i]'hil) (by rw [hb4, hr]; exact List.getElem?_eq_getElem hil)
          rw [hV i _ (List.getElem?_eq_getElem hil)]
          exact h2 }
end
end Go.Proofs.Ytpdegeknhapgmaa

namespace Go.Proofs.Ytpdegeknhapgmaa
set_option linter.unusedVariables false
set_option linter.unusedSimpArgs false
open Go.RowKit
set_option maxRecDepth 100000

/-- what an operation touches: slots read, its own slot, numbers, whether it turns them -/
structure Fp where
  rs : List Nat
  d : Option Nat
  F : List Nat
  w : Bool
def inS (i : Nat) : Option Nat → Bool
  | some d => i == d
  | none => false
def meet : List Nat → List Nat → Bool
  | [], _ => false
  | n :: l, m => match inN n m with
    | true => true
    | false => meet l m
def dNotIn (d : Option Nat) (l : List Nat) : Bool :=
  match d with
  | some d => !(inN d l)
  | none => true
def indep (a b : Fp) : Bool :=
  dNotIn a.d b.rs && dNotIn b.d a.rs && (match a.d, b.d with | some i, some j => !(i == j) | _, _ => true) && (!(a.w || b.w) || !(meet a.F b.F))
/-- what an operation waits for, all told -/
def depL (o : Oper) : List Nat := o.after.toList.filterMap fun e => match Region.binds .any e with | true => some e.on | false => none
def ancs : List Oper → List (List Nat) → List (List Nat)
  | [], acc => acc
  | o :: l, acc => ancs l (acc ++ [(depL o).flatMap fun d => d :: acc.getD d []])
/-- op k against all ahead of it -/
def okRow (A : List Nat) (b : Fp) : Nat → List Fp → Bool
  | _, [] => true
  | i, a :: l => (match inN i A with | true => true | false => indep a b) && okRow A b (i + 1) l
def okAll (As : List (List Nat)) (fs : List Fp) : Nat → List Fp → Bool
  | _, [] => true
  | k, b :: l => okRow (As.getD k []) b 0 (fs.take k) && okAll As fs (k + 1) l
def okD (l : List Oper) (fs : List Fp) : Bool := okAll (ancs l []) fs 0 fs

/-- an operation's doing -/
structure Rc where
  fp : Fp
  av : AV
  b2 : List Sl
def app (r : Rc) (s : AS) : AS := ⟨dput r.fp.d r.av s.t, match r.fp.w with | true => ovB r.fp.F 0 r.b2 s.b | false => s.b⟩
def jn : List Rc → List Bool → AS → AS
  | r :: rs, x :: xs, s => jn rs xs (match x with | true => app r s | false => s)
  | _, _, s => s
inductive Tr (P : Program) (ops : Array Oper) : AS → List Oper → List Rc → AS → Prop
  | nil {s} : Tr P ops s [] [] s
  | cons {s o l r rs s'} : r.fp.d = o.dst → r.b2.length = s.b.length → (r.fp.w = false → r.b2 = s.b) → (∀ j, inN j r.fp.F = false → r.b2[j]? = s.b[j]?) → FStep P ops o s r.fp.rs r.fp.F r.av r.b2 →
      Tr P ops ⟨dput o.dst r.av s.t, r.b2⟩ l rs s' → Tr P ops s (o :: l) (r :: rs) s'
def wrT (r : Rc) (i : Nat) : Bool := inS i r.fp.d
def wrB (r : Rc) (j : Nat) : Bool := r.fp.w && inN j r.fp.F
section
variable {P : Program} {ops : Array Oper} {s s' : AS}
theorem dput_len {d : Option Nat} {av : AV} {t : List AV} : (dput d av t).length = t.length := by unfold dput; split <;> simp
theorem dput_at {d : Option Nat} {av : AV} {t : List AV} {i : Nat} : (dput d av t)[i]? = match inS i d && decide (i < t.length) with | true => some av | false => t[i]? := by
  unfold dput inS
  cases d with
  | none => simp
  | some d =>
    dsimp only
    rw [List.getElem?_set]
    by_cases h : d = i
    · subst h
      by_cases h2 : d < t.length
      · simp [h2]
      · simp [h2]
    · have : (i == d) = false := by simp; omega
      simp [h, this]
theorem app_t {r : Rc} {i : Nat} : (app r s).t[i]? = match wrT r i && decide (i < s.t.length) with | true => some r.av | false => s.t[i]? := dput_at
theorem app_b {r : Rc} {j : Nat} (h : r.b2.length = s.b.length) : (app r s).b[j]? = match wrB r j with | true => r.b2[j]? | false => s.b[j]? := by
  unfold app wrB
  cases hw : r.fp.w with
  | false => simp
  | true => simp only [Bool.true_and]; rw [ovB_at h, Nat.zero_add] <;> cases inN j r.fp.F <;> rfl
theorem app_len {r : Rc} : (app r s).t.length = s.t.length ∧ (app r s).b.length = s.b.length := by
  unfold app
  refine ⟨dput_len, ?_⟩
  dsimp only
  split
  · exact ovB_len
  · rfl
theorem jn_len : ∀ {rs : List Rc} {xs : List Bool} {s : AS}, (jn rs xs s).t.length = s.t.length ∧ (jn rs xs s).b.length = s.b.length
  | [], _, _ => ⟨by simp [jn], by simp [jn]⟩
  | _ :: _, [], _ => ⟨by simp [jn], by simp [jn]⟩
  | r :: rs, x :: xs, s => by
    cases x with
    | true => have := jn_len (rs := rs) (xs := xs) (s := app r s); rw [app_len.1, app_len.2] at this; exact this
    | false => exact jn_len (rs := rs) (xs := xs) (s := s)
/-- the same, where the same operations that turn it are done -/
theorem jn_t {i : Nat} : ∀ {rs : List Rc} {xs ys : List Bool} {s s' : AS}, xs.length = rs.length → ys.length = rs.length → s.t.length = s'.t.length → s.t[i]? = s'.t[i]? →
    (∀ (k : Nat) (r : Rc), rs[k]? = some r → wrT r i = true → xs[k]? = ys[k]?) → (jn rs xs s).t[i]? = (jn rs ys s').t[i]?
  | [], xs, ys, s, s', _, _, _, he, _ => by simp [jn, he]
  | r :: rs, [], _, _, _, h, _, _, _, _ => by simp at h
  | r :: rs, _ :: _, [], _, _, _, h, _, _, _ => by simp at h
  | r :: rs, x :: xs, y :: ys, s, s', h1, h2, hl, he, hw => by
    have hw' : ∀ (k : Nat) (r : Rc), rs[k]? = some r → wrT r i = true → xs[k]? = ys[k]? := fun k r' hk hr => by simpa using hw (k + 1) r' (by simpa using hk) hr
    simp only [jn]
    refine jn_t (by simpa using h1) (by simpa using h2) ?_ ?_ hw'
    · cases x <;> cases y <;> simp [app_len.1, hl]
    · have hxy : wrT r i = true → x = y := fun h => by simpa using hw 0 r rfl h
      cases hr : wrT r i with
      | true =>
        obtain rfl := hxy hr
        cases x with
        | false => exact he
        | true => simp only [app_t, hr, Bool.true_and, hl, he]
      | false => cases x <;> cases y <;> simp [app_t, hr, he]
theorem jn_b {j : Nat} : ∀ {rs : List Rc} {xs ys : List Bool} {s s' : AS}, xs.length = rs.length → ys.length = rs.length → (∀ r ∈ rs, r.b2.length = s.b.length) → s.b.length = s'.b.length → s.b[j]? = s'.b[j]? →
    (∀ (k : Nat) (r : Rc), rs[k]? = some r → wrB r j = true → xs[k]? = ys[k]?) → (jn rs xs s).b[j]? = (jn rs ys s').b[j]?
  | [], xs, ys, s, s', _, _, _, _, he, _ => by simp [jn, he]
  | r :: rs, [], _, _, _, h, _, _, _, _, _ => by simp at h
  | r :: rs, _ :: _, [], _, _, _, h, _, _, _, _ => by simp at h
  | r :: rs, x :: xs, y :: ys, s, s', h1, h2, hb, hl, he, hw => by
    have hw' : ∀ (k : Nat) (r : Rc), rs[k]? = some r → wrB r j = true → xs[k]? = ys[k]? := fun k r' hk hr => by simpa using hw (k + 1) r' (by simpa using hk) hr
    have hb0 := hb r (by simp)
    simp only [jn]
    refine jn_b (by simpa using h1) (by simpa using h2) (fun r' hr' => ?_) ?_ ?_ hw'
    · cases x <;> simp [app_len.2, hb r' (by simp [hr'])]
    · cases x <;> cases y <;> simp [app_len.2, hl]
    · have hxy : wrB r j = true → x = y := fun h => by simpa using hw 0 r rfl h
      cases hr : wrB r j with
      | true =>
        obtain rfl := hxy hr
        cases x with
        | false => exact he
        | true => rw [app_b hb0, app_b (by omega), hr]
      | false => cases x <;> cases y <;> simp [app_b hb0, app_b (s := s') (r := r) (j := j) (by omega), hr, he]
/-- one more done -/
theorem jn_set_t {i : Nat} : ∀ {rs : List Rc} {xs : List Bool} {s : AS} {k : Nat} {r : Rc}, xs.length = rs.length → rs[k]? = some r → xs[k]? = some false →
    (∀ (m : Nat) (r' : Rc), k < m → rs[m]? = some r' → xs[m]? = some true → ¬ (wrT r i = true ∧ wrT r' i = true)) → (jn rs (xs.set k true) s).t[i]? = (app r (jn rs xs s)).t[i]?
  | [], _, _, k, _, _, h, _, _ => by simp at h
  | r0 :: rs, [], _, _, _, h, _, _, _ => by simp at h
  | r0 :: rs, x :: xs, s, 0, r, hl, hr, hx, hn => by
    simp at hr hx; subst hr hx
    simp only [List.set_cons_zero, jn]
    rw [app_t]
    cases hw : wrT r0 i with
    | false =>
      simp only [Bool.false_and]
      exact jn_t (by simpa using hl) (by simpa using hl) app_len.1 (by simp [app_t, hw]) fun _ _ _ _ => rfl
    | true =>
      have e : (jn rs xs (app r0 s)).t[i]? = (app r0 s).t[i]? := by
        have h1 := jn_t (i := i) (rs := rs) (xs := xs) (ys := List.replicate rs.length false) (s := app r0 s) (s' := app r0 s) (by simpa using hl) (by simp) rfl rfl fun m r' hm hr' => by
          have h2 := hn (m + 1) r' (by omega) (by simpa using hm)
          have hml : m < rs.length := (List.getElem?_eq_some_iff.1 hm).1
          rw [List.getElem?_replicate, if_pos hml]
          have hxl : m < xs.length := by simp at hl; omega
          rw [List.getElem?_eq_getElem hxl]
          cases hxm : xs[m] with
          | false => rfl
          | true => exact absurd ⟨hw, hr'⟩ (h2 (by simp [List.getElem?_eq_getElem hxl, hxm]))
        rw [h1]
        have : ∀ (rs : List Rc) (s : AS), jn rs (List.replicate rs.length false) s = s := fun rs => by
          induction rs with
          | nil => intro s; simp [jn]
          | cons r rs ih => intro s; simp [List.replicate_succ, jn, ih]
        rw [this]
      rw [e, app_t, hw, jn_len.1]
      split
      · rfl
      · rename_i hlt
        have hge : s.t.length ≤ i := by simpa using hlt
        rw [List.getElem?_eq_none hge, List.getElem?_eq_none (by rw [jn_len.1]; exact hge)]
  | r0 :: rs, x :: xs, s, k + 1, r, hl, hr, hx, hn => by
    have this := fun s => jn_set_t (i := i) (rs := rs) (xs := xs) (s := s) (k := k) (r := r) (by simpa using hl) (by simpa using hr) (by simpa using hx) fun m r' hm h1 h2 => hn (m + 1) r' (by omega) (by simpa using h1) (by simpa using h2)
    simp only [List.set_cons_succ, jn]
    exact this _
theorem jn_none : ∀ (rs : List Rc) (s : AS), jn rs (List.replicate rs.length false) s = s
  | [], s => by simp [jn]
  | r :: rs, s => by simp [List.replicate_succ, jn, jn_none rs]
theorem jn_set_b {j : Nat} : ∀ {rs : List Rc} {xs : List Bool} {s : AS} {k : Nat} {r : Rc}, xs.length = rs.length → (∀ r ∈ rs, r.b2.length = s.b.length) → rs[k]? = some r → xs[k]? = some false →
    (∀ (m : Nat) (r' : Rc), k < m → rs[m]? = some r' → xs[m]? = some true → ¬ (wrB r j = true ∧ wrB r' j = true)) → (jn rs (xs.set k true) s).b[j]? = (app r (jn rs xs s)).b[j]?
  | [], _, _, k, _, _, _, h, _, _ => by simp at h
  | r0 :: rs, [], _, _, _, h, _, _, _, _ => by simp at h
  | r0 :: rs, x :: xs, s, 0, r, hl, hb, hr, hx, hn => by
    simp at hr hx; subst hr hx
    simp only [List.set_cons_zero, jn]
    have hb0 := hb r0 (by simp)
    rw [app_b (by rw [jn_len.2]; exact hb0)]
    cases hw : wrB r0 j with
    | false =>
      dsimp only
      exact jn_b (by simpa using hl) (by simpa using hl) (fun r' hr' => by rw [app_len.2]; exact hb r' (by simp [hr'])) app_len.2 (by simp [app_b hb0, hw]) fun _ _ _ _ => rfl
    | true =>
      dsimp only
      have h1 := jn_b (j := j) (rs := rs) (xs := xs) (ys := List.replicate rs.length false) (s := app r0 s) (s' := app r0 s) (by simpa using hl) (by simp) (fun r' hr' => by rw [app_len.2]; exact hb r' (by simp [hr'])) rfl rfl fun m r' hm hr' => by
        have h2 := hn (m + 1) r' (by omega) (by simpa using hm)
        have hml : m < rs.length := (List.getElem?_eq_some_iff.1 hm).1
        rw [List.getElem?_replicate, if_pos hml]
        have hxl : m < xs.length := by simp at hl; omega
        rw [List.getElem?_eq_getElem hxl]
        cases hxm : xs[m] with
        | false => rfl
        | true => exact absurd ⟨hw, hr'⟩ (h2 (by simp [List.getElem?_eq_getElem hxl, hxm]))
      rw [h1, jn_none, app_b hb0, hw]
  | r0 :: rs, x :: xs, s, k + 1, r, hl, hb, hr, hx, hn => by
    have this := fun s hs => jn_set_b (j := j) (rs := rs) (xs := xs) (s := s) (k := k) (r := r) (by simpa using hl) hs (by simpa using hr) (by simpa using hx) fun m r' hm h1 h2 => hn (m + 1) r' (by omega) (by simpa using h1) (by simpa using h2)
    simp only [List.set_cons_succ, jn]
    exact this _ fun r' hr' => by cases x <;> simp [app_len.2, hb r' (by simp [hr'])]
/-- the first k done -/
def pre (k n : Nat) : List Bool := List.replicate k true ++ List.replicate (n - k) false
theorem pre_at {k n i : Nat} (hi : i < n) (hk : k ≤ n) : (pre k n)[i]? = some (decide (i < k)) := by
  unfold pre
  by_cases h : i < k
  · rw [List.getElem?_append_left (by simpa using h)]; simp [h]
  · rw [List.getElem?_append_right (by simpa using h), List.getElem?_replicate, if_pos (by simp; omega)]; simp [h]
theorem pre_len {k n : Nat} (hk : k ≤ n) : (pre k n).length = n := by simp [pre]; omega
theorem Tr.app_eq {o : Oper} {r : Rc} (h1 : r.fp.d = o.dst) (h2 : r.b2.length = s.b.length) (h3 : r.fp.w = false → r.b2 = s.b) (h4 : ∀ j, inN j r.fp.F = false → r.b2[j]? = s.b[j]?) : app r s = ⟨dput o.dst r.av s.t, r.b2⟩ := by
  unfold app
  rw [h1]
  congr 1
  cases hw : r.fp.w with
  | false => exact (h3 hw).symm
  | true =>
    dsimp only
    refine List.ext_getElem? fun j => ?_
    rw [ovB_at h2, Nat.zero_add]
    cases hj : inN j r.fp.F with
    | true => rfl
    | false => exact (h4 j hj).symm
theorem Tr.lens {l : List Oper} {rs : List Rc} (h : Tr P ops s l rs s') : rs.length = l.length ∧ ∀ r ∈ rs, r.b2.length = s.b.length := by
  induction h with
  | nil => exact ⟨rfl, fun _ h => by cases h⟩
  | cons h1 h2 h3 h4 _ _ ih =>
    refine ⟨by simp [ih.1], fun r hr => ?_⟩
    rcases List.mem_cons.1 hr with rfl | hr
    · exact h2
    · have := ih.2 r hr; dsimp only at this; omega
theorem Tr.at_ {l : List Oper} {rs : List Rc} (h : Tr P ops s l rs s') : ∀ {k : Nat} {o : Oper} {r : Rc}, l[k]? = some o → rs[k]? = some r →
    r.fp.d = o.dst ∧ (r.fp.w = false → r.b2 = (jn rs (pre k l.length) s).b) ∧ FStep P ops o (jn rs (pre k l.length) s) r.fp.rs r.fp.F r.av r.b2 := by
  induction h with
  | nil => intro k o r h; simp at h
  | @cons s o l r rs s' h1 h2 h3 h4 h5 h6 ih =>
    intro k o' r' hk hr
    cases k with
    | zero =>
      simp at hk hr; subst hk hr
      have : jn (r :: rs) (pre 0 (l.length + 1)) s = s := by
        have := jn_none (r :: rs) s
        rwa [List.length_cons, h6.lens.1] at this
      simp only [List.length_cons, this]
      exact ⟨h1, h3, h5⟩
    | succ k =>
      have := ih (k := k) (by simpa using hk) (by simpa using hr)
      have e : jn (r :: rs) (pre (k + 1) (l.length + 1)) s = jn rs (pre k l.length) ⟨dput o.dst r.av s.t, r.b2⟩ := by
        rw [← Tr.app_eq h1 h2 h3 h4]
        simp only [pre, List.replicate_succ, List.cons_append, jn, show l.length + 1 - (k + 1) = l.length - k by omega]
      simp only [List.length_cons, e]
      exact this
theorem Tr.all {l : List Oper} {rs : List Rc} (h : Tr P ops s l rs s') : jn rs (List.replicate l.length true) s = s' := by
  induction h with
  | nil => simp [jn]
  | @cons s o l r rs s' h1 h2 h3 h4 _ _ ih =>
    simp only [List.length_cons, List.replicate_succ, jn]
    rw [Tr.app_eq h1 h2 h3 h4]; exact ih
/-! the order's test -/
theorem ancs_get : ∀ {l : List Oper} {acc : List (List Nat)}, (ancs l acc).length = acc.length + l.length ∧ ∀ i, i < acc.length → (ancs l acc)[i]? = acc[i]?
  | [], acc => ⟨rfl, fun _ _ => rfl⟩
  | o :: l, acc => by
    have := ancs_get (l := l) (acc := acc ++ [(depL o).flatMap fun d => d :: acc.getD d []])
    simp only [ancs]
    refine ⟨by rw [this.1]; simp; omega, fun i hi => ?_⟩
    rw [this.2 i (by simp; omega), List.getElem?_append_left hi]
theorem inN_mem {n : Nat} : ∀ {l : List Nat}, inN n l = true ↔ n ∈ l
  | [] => by simp [inN]
  | m :: l => by
    unfold inN
    cases h : n == m with
    | true => have := eq_of_beq h; simp [this]
    | false => have : n ≠ m := by simpa using h
               simp [this, inN_mem (l := l)]
theorem depsOk_mem {b : List Bool} {o : Oper} (h : depsOk b o = true) {d : Nat} (hd : d ∈ depL o) : b.getD d false = true := by
  unfold depL at hd
  obtain ⟨e, he, hed⟩ := List.mem_filterMap.1 hd
  have := List.all_eq_true.1 h e he
  cases hb : Region.binds .any e with
  | false => rw [hb] at hed; cases hed
  | true => rw [hb] at hed this; injection hed with hed; subst hed; simpa using this
/-- what an operation that is done waited for is done -/
theorem ancs_closed {b : List Bool} : ∀ {l : List Oper} {acc : List (List Nat)}, (∀ (k : Nat) (A : List Nat), acc[k]? = some A → b.getD k false = true → ∀ i ∈ A, b.getD i false = true) →
    (∀ (k : Nat) (o : Oper), l[k]? = some o → b.getD (acc.length + k) false = true → depsOk b o = true) →
    ∀ (k : Nat) (A : List Nat), (ancs l acc)[k]? = some A → b.getD k false = true → ∀ i ∈ A, b.getD i false = true
  | [], acc, h, _ => h
  | o :: l, acc, h, hd => by
    refine ancs_closed (l := l) (fun k A hk hb i hi => ?_) fun k o' hk hb => ?_
    · by_cases hka : k < acc.length
      · rw [List.getElem?_append_left hka] at hk; exact h k A hk hb i hi
      · have hk0 : k = acc.length := by have := (List.getElem?_eq_some_iff.1 hk).1; simp at this; omega
        subst hk0
        simp at hk; subst hk
        obtain ⟨d, hd1, hd2⟩ := List.mem_flatMap.1 hi
        have h1 := depsOk_mem (hd 0 o rfl (by simpa using hb)) hd1
        rcases List.mem_cons.1 hd2 with rfl | hd2
        · exact h1
        · by_cases hdl : d < acc.length
          · have e : acc[d]?.getD [] = acc[d] := by rw [List.getElem?_eq_getElem hdl]; rfl
            rw [e] at hd2
            exact h d _ (List.getElem?_eq_getElem hdl) h1 i hd2
          · rw [List.getElem?_eq_none (by omega)] at hd2; simp at hd2
    · have := hd (k + 1) o' (by simpa using hk)
      rw [show acc.length + (k + 1) = (acc ++ [(depL o).flatMap fun d => d :: acc.getD d []]).length + k by simp; omega] at this
      exact this hb
theorem ancs_deps : ∀ {l : List Oper} {acc : List (List Nat)} {k : Nat} {o : Oper} {b : List Bool}, l[k]? = some o → depsOk b o = true →
    (∀ (m : Nat) (A : List Nat), (ancs l acc)[m]? = some A → b.getD m false = true → ∀ i ∈ A, b.getD i false = true) → ∀ i ∈ (ancs l acc).getD (acc.length + k) [], b.getD i false = true
  | [], _, _, _, _, h, _, _ => by simp at h
  | o0 :: l, acc, 0, o, b, h, hd, hc => by
    intro i hi
    simp at h; subst h
    simp only [ancs] at hi hc
    have hg := (ancs_get (l := l) (acc := acc ++ [(depL o0).flatMap fun d => d :: acc.getD d []])).2
    rw [List.getD_eq_getElem?_getD, Nat.add_zero, hg acc.length (by simp)] at hi
    simp at hi
    obtain ⟨d, hd1, hd2⟩ := hi
    have h1 := depsOk_mem hd hd1
    rcases hd2 with rfl | hd2
    · exact h1
    · by_cases hdl : d < acc.length
      · have e : acc[d]?.getD [] = acc[d] := by rw [List.getElem?_eq_getElem hdl]; rfl
        rw [e] at hd2
        exact hc d acc[d] (by rw [hg d (by simp; omega), List.getElem?_append_left hdl, List.getElem?_eq_getElem hdl]) h1 i hd2
      · rw [List.getElem?_eq_none (by omega)] at hd2; simp at hd2
  | o0 :: l, acc, k + 1, o, b, h, hd, hc => by
    have := ancs_deps (l := l) (acc := acc ++ [(depL o0).flatMap fun d => d :: acc.getD d []]) (k := k) (by simpa using h) hd hc
    rw [show (acc ++ [(depL o0).flatMap fun d => d :: acc.getD d []]).length + k = acc.length + (k + 1) by simp; omega] at this
    exact this
theorem okRow_at {A : List Nat} {b : Fp} : ∀ {l : List Fp} {n i : Nat} {a : Fp}, okRow A b n l = true → l[i]? = some a → inN (n + i) A = true ∨ indep a b = true
  | [], _, _, _, _, h => by simp at h
  | a0 :: l, n, 0, a, h, ha => by
    simp at ha; subst ha
    simp only [okRow, Bool.and_eq_true] at h
    rw [Nat.add_zero]
    cases hi : inN n A with
    | true => exact .inl rfl
    | false => rw [hi] at h; exact .inr h.1
  | a0 :: l, n, i + 1, a, h, ha => by
    simp only [okRow, Bool.and_eq_true] at h
    have := okRow_at (i := i) h.2 (by simpa using ha)
    rwa [show n + 1 + i = n + (i + 1) by omega] at this
theorem okAll_at {As : List (List Nat)} {fs : List Fp} : ∀ {l : List Fp} {n k : Nat} {b : Fp}, okAll As fs n l = true → l[k]? = some b → okRow (As.getD (n + k) []) b 0 (fs.take (n + k)) = true
  | [], _, _, _, _, h => by simp at h
  | b0 :: l, n, 0, b, h, hb => by
    simp at hb; subst hb
    simp only [okAll, Bool.and_eq_true] at h
    exact h.1
  | b0 :: l, n, k + 1, b, h, hb => by
    simp only [okAll, Bool.and_eq_true] at h
    have := okAll_at (k := k) h.2 (by simpa using hb)
    rwa [show n + 1 + k = n + (k + 1) by omega] at this
theorem okD_at {l : List Oper} {fs : List Fp} (h : okD l fs = true) {i k : Nat} {a b : Fp} (hik : i < k) (ha : fs[i]? = some a) (hb : fs[k]? = some b) : i ∈ (ancs l []).getD k [] ∨ indep a b = true := by
  have h1 := okAll_at (k := k) h hb
  rw [Nat.zero_add] at h1
  have h2 := okRow_at (i := i) (a := a) h1 (by rw [List.getElem?_take, if_pos hik]; exact ha)
  rw [Nat.zero_add] at h2
  exact h2.imp inN_mem.1 id
theorem indep_t {a b : Rc} (h : indep a.fp b.fp = true) : (∀ i, wrT a i = true → inN i b.fp.rs = false) ∧ (∀ i, wrT b i = true → inN i a.fp.rs = false) ∧ ∀ i, ¬ (wrT a i = true ∧ wrT b i = true) := by
  simp only [indep, Bool.and_eq_true] at h
  obtain ⟨⟨⟨h1, h2⟩, h3⟩, _⟩ := h
  refine ⟨fun i hi => ?_, fun i hi => ?_, fun i ⟨hi, hj⟩ => ?_⟩
  · unfold wrT inS at hi
    unfold dNotIn at h1
    split at hi
    · rename_i d hd
      rw [hd] at h1
      have := eq_of_beq hi; subst this; simpa using h1
    · cases hi
  · unfold wrT inS at hi
    unfold dNotIn at h2
    split at hi
    · rename_i d hd
      rw [hd] at h2
      have := eq_of_beq hi; subst this; simpa using h2
    · cases hi
  · unfold wrT inS at hi hj
    split at hi
    · rename_i d hd
      split at hj
      · rename_i d' hd'
        rw [hd, hd'] at h3
        have e1 := eq_of_beq hi
        have e2 := eq_of_beq hj
        subst e1; subst e2
        simp at h3
      · cases hj
    · cases hi
theorem meet_of {j : Nat} : ∀ {l m : List Nat}, meet l m = false → inN j l = true → inN j m = false
  | [], _, _, h => by simp [inN] at h
  | n :: l, m, h, hj => by
    unfold meet at h
    split at h
    · cases h
    · rename_i hn
      rcases List.mem_cons.1 (inN_mem.1 hj) with rfl | h1
      · exact hn
      · exact meet_of h (inN_mem.2 h1)
theorem indep_b {a b : Rc} (h : indep a.fp b.fp = true) : (∀ j, wrB a j = true → inN j b.fp.F = false) ∧ ∀ j, wrB b j = true → inN j a.fp.F = false := by
  simp only [indep, Bool.and_eq_true] at h
  have h4 := h.2
  refine ⟨fun j hj => ?_, fun j hj => ?_⟩
  · simp only [wrB, Bool.and_eq_true] at hj
    rw [hj.1] at h4
    exact meet_of (by simpa using h4) hj.2
  · simp only [wrB, Bool.and_eq_true] at hj
    rw [hj.1] at h4
    have h5 : meet a.fp.F b.fp.F = false := by simpa using h4
    cases h6 : inN j a.fp.F with
    | false => rfl
    | true => have := meet_of h5 h6; rw [hj.2] at this; cases this
/-- in whatever order -/
theorem Tr.steps {X : Cx} {l : List Oper} {rs : List Rc} (h : Tr P l.toArray s l rs s') (hok : okD l (rs.map (·.fp)) = true) (b : List Bool) (hb : b.length = l.length) (hc : closedB l b b = true) : ∀ (n : Nat) (l' : List Oper), l.drop n = l' → StepsP P X l.toArray (fun b => jn rs b s) b n l' := by
  obtain ⟨hlen, hbl⟩ := h.lens
  have hcl : ∀ (k : Nat) (A : List Nat), (ancs l [])[k]? = some A → b.getD k false = true → ∀ i ∈ A, b.getD i false = true :=
    ancs_closed (fun k A hk => by simp at hk) fun k o hk hbk => closedB.at_ hc hk (by
      simp only [List.length_nil, Nat.zero_add] at hbk
      have hkl := (List.getElem?_eq_some_iff.1 hk).1
      rw [List.getElem?_eq_getElem (by omega)]
      rw [List.getD_eq_getElem?_getD, List.getElem?_eq_getElem (by omega)] at hbk
      simpa using hbk)
  intro n l'
  induction l' generalizing n with
  | nil => intro _; trivial
  | cons o l' ih =>
    intro hn
    have ho : l[n]? = some o := by rw [← List.head?_drop, hn]; rfl
    have hnl := (List.getElem?_eq_some_iff.1 ho).1
    refine ⟨fun h1 h2 => ?_, ih (n + 1) (by rw [← List.drop_drop, hn]; rfl)⟩
    have hbn : b[n]? = some false := by
      rw [List.getElem?_eq_getElem (by omega)]
      rw [List.getD_eq_getElem?_getD, List.getElem?_eq_getElem (by omega)] at h1
      simpa using h1
    have hrn : rs[n]? = some (rs[n]'(by omega)) := List.getElem?_eq_getElem (by omega)
    generalize rs[n]'(by omega) = r at hrn
    obtain ⟨e1, e2, e3⟩ := h.at_ ho hrn
    have hanc : ∀ i ∈ (ancs l []).getD n [], b.getD i false = true := by
      have := ancs_deps (l := l) (acc := []) (k := n) ho h2 hcl
      simpa using this
    -- of the others: done just if they stand ahead, where they have to do with it
    have key : ∀ (k : Nat) (r' : Rc), rs[k]? = some r' → k ≠ n → indep r.fp r'.fp = false → indep r'.fp r.fp = false → b[k]? = some (decide (k < n)) := fun k r' hk hkn hi hi' => by
      have hkl := (List.getElem?_eq_some_iff.1 hk).1
      rcases Nat.lt_or_ge k n with hlt | hge
      · rcases okD_at hok (a := r'.fp) (b := r.fp) hlt (by simp [hk]) (by simp [hrn]) with h3 | h3
        · have := hanc k h3
          rw [List.getD_eq_getElem?_getD, List.getElem?_eq_getElem (by omega)] at this
          rw [List.getElem?_eq_getElem (by omega)]
          simpa [hlt] using this
        · rw [hi'] at h3; cases h3
      · have hlt : n < k := by omega
        rcases okD_at hok (a := r.fp) (b := r'.fp) hlt (by simp [hrn]) (by simp [hk]) with h3 | h3
        · rw [List.getElem?_eq_getElem (by omega)]
          cases hbk : b[k] with
          | false => simp; omega
          | true =>
            have hkA : (ancs l [])[k]? = some ((ancs l []).getD k []) := by
              rw [List.getD_eq_getElem?_getD, List.getElem?_eq_getElem (by rw [(ancs_get (l := l) (acc := [])).1]; simp; omega)]; rfl
            have := hcl k _ hkA (by rw [List.getD_eq_getElem?_getD, List.getElem?_eq_getElem (by omega), hbk]; rfl) n h3
            rw [List.getD_eq_getElem?_getD, hbn] at this; cases this
        · rw [hi] at h3; cases h3
    have fls : ∀ {x : Bool}, (x = true → False) → x = false := fun h => by cases hx : ‹Bool› <;> first | rfl | exact (h hx).elim
    have hpl : (pre n l.length).length = rs.length := by rw [pre_len (by omega)]; omega
    have hT : ∀ i, inN i r.fp.rs = true → (jn rs b s).t[i]? = (jn rs (pre n l.length) s).t[i]? := fun i hi => by
      refine jn_t (by omega) hpl rfl rfl fun k r' hk hw => ?_
      have hkl := (List.getElem?_eq_some_iff.1 hk).1
      rw [pre_at (by omega) (by omega)]
      by_cases hkn : k = n
      · subst hkn; rw [hbn]; simp
      · refine key k r' hk hkn (fls fun h => ?_) (fls fun h => ?_)
        · have := (indep_t h).2.1 i hw; rw [hi] at this; cases this
        · have := (indep_t h).1 i hw; rw [hi] at this; cases this
    have hB : ∀ j, inN j r.fp.F = true → (jn rs b s).b[j]? = (jn rs (pre n l.length) s).b[j]? := fun j hj => by
      refine jn_b (by omega) hpl hbl rfl rfl fun k r' hk hw => ?_
      have hkl := (List.getElem?_eq_some_iff.1 hk).1
      rw [pre_at (by omega) (by omega)]
      by_cases hkn : k = n
      · subst hkn; rw [hbn]; simp
      · refine key k r' hk hkn (fls fun h => ?_) (fls fun h => ?_)
        · have := (indep_b h).2 j hw; rw [hj] at this; cases this
        · have := (indep_b h).1 j hw; rw [hj] at this; cases this
    have hst := e3 X (jn rs b s) (by rw [jn_len.1, jn_len.1]) (by rw [jn_len.2, jn_len.2]) hT hB
    have hbr := hbl r (List.mem_of_getElem? hrn)
    have hgoal : (⟨dput o.dst r.av (jn rs b s).t, ovB r.fp.F 0 r.b2 (jn rs b s).b⟩ : AS) = jn rs (b.set n true) s := by
      have happ : (⟨dput o.dst r.av (jn rs b s).t, ovB r.fp.F 0 r.b2 (jn rs b s).b⟩ : AS) = app r (jn rs b s) := by
        unfold app
        rw [e1]
        congr 1
        cases hw : r.fp.w with
        | true => rfl
        | false =>
          refine List.ext_getElem? fun j => ?_
          rw [ovB_at (by rw [jn_len.2]; exact hbr), Nat.zero_add]
          cases hj : inN j r.fp.F with
          | false => rfl
          | true => dsimp only; rw [hB j hj, e2 hw]
      rw [happ]
      have hne : ∀ (m : Nat) (r' : Rc), n < m → rs[m]? = some r' → b[m]? = some true → indep r.fp r'.fp = true := fun m r' hm hr' hbm => by
        have hml := (List.getElem?_eq_some_iff.1 hr').1
        rcases okD_at hok (a := r.fp) (b := r'.fp) hm (by simp [hrn]) (by simp [hr']) with h3 | h3
        · have hkA : (ancs l [])[m]? = some ((ancs l []).getD m []) := by
            rw [List.getD_eq_getElem?_getD, List.getElem?_eq_getElem (by rw [(ancs_get (l := l) (acc := [])).1]; simp; omega)]; rfl
          have := hcl m _ hkA (by rw [List.getD_eq_getElem?_getD, hbm]; rfl) n h3
          rw [List.getD_eq_getElem?_getD, hbn] at this; cases this
        · exact h3
      have q1 : (app r (jn rs b s)).t = (jn rs (b.set n true) s).t := List.ext_getElem? fun i => (jn_set_t (by omega) hrn hbn fun m r' hm hr' hbm h4 => (indep_t (hne m r' hm hr' hbm)).2.2 i h4).symm
      have q2 : (app r (jn rs b s)).b = (jn rs (b.set n true) s).b := List.ext_getElem? fun j => (jn_set_b (by omega) hbl hrn hbn fun m r' hm hr' hbm h4 => by
        have := (indep_b (hne m r' hm hr' hbm)).1 j h4.1
        have h5 := h4.2
        simp only [wrB, Bool.and_eq_true] at h5
        rw [h5.2] at this; cases this).symm
      generalize app r (jn rs b s) = A at q1 q2
      cases A; cases hj : jn rs (b.set n true) s
      rw [hj] at q1 q2
      dsimp only at q1 q2; subst q1; subst q2; rfl
    rw [hgoal] at hst
    exact hst
/-- the walk in the text's order -/
def DW (P : Program) (ops : Array Oper) (all : List Oper) (K : AS → Prop) : List Fp → List Oper → AS → Prop
  | acc, [], s => okD all acc.reverse = true ∧ K s
  | acc, o :: l, s => ∃ r : Rc, r.fp.d = o.dst ∧ r.b2.length = s.b.length ∧ (r.fp.w = false → r.b2 = s.b) ∧ (∀ j, inN j r.fp.F = false → r.b2[j]? = s.b[j]?) ∧ FStep P ops o s r.fp.rs r.fp.F r.av r.b2 ∧
      DW P ops all K (r.fp :: acc) l ⟨dput o.dst r.av s.t, r.b2⟩
variable {all : List Oper} {K : AS → Prop} {acc : List Fp} {l : List Oper} {o : Oper} {X : Cx} {Q : Exit → AS → Prop}
theorem DW.tr : ∀ {l : List Oper} {acc : List Fp} {s : AS}, DW P ops all K acc l s → ∃ rs s', Tr P ops s l rs s' ∧ okD all (acc.reverse ++ rs.map (·.fp)) = true ∧ K s'
  | [], acc, s, h => ⟨[], s, .nil, by simpa using h.1, h.2⟩
  | o :: l, acc, s, ⟨r, h1, h2, h3, h4, h5, h6⟩ => by
    obtain ⟨rs, s', h7, h8, h9⟩ := DW.tr h6
    exact ⟨r :: rs, s', .cons h1 h2 h3 h4 h5 h7, by simpa using h8, h9⟩
theorem cp_drawW {id : Nat} (hm : P.follows .mixedOrders = true) (hf : fwdB 0 l = true) (h : DW P l.toArray l (fun s' => Q .normal s') [] l s) : CP P X (.region id l.toArray true) Q s := by
  obtain ⟨rs, s', h1, h2, h3⟩ := h.tr
  refine cp_drawI (fun s b => jn rs b s) hm hf (by rw [← h1.lens.1]; exact jn_none rs s) (fun b hb hc => h1.steps (by simpa using h2) b hb hc 0 l rfl) ?_
  rw [h1.all]; exact h3
theorem cp_drwW {id : Nat} {y : Code} (hm : P.follows .mixedOrders = true) (hf : fwdB 0 l = true) (h : ∀ Q' : AS → Prop, (∀ s', CP P X y Q s' → Q' s') → DW P l.toArray l Q' [] l s) : CP P X (.seq (.region id l.toArray true) y) Q s :=
  cp_seq (cp_drawW hm hf (h _ fun _ h => h))
theorem DW.nil (h : okD all acc.reverse = true) (hk : K s) : DW P ops all K acc [] s := ⟨h, hk⟩
theorem DW.k_any (h : DW P ops all K acc (o :: l) s) : DW P ops all K acc (o :: l) s := h
theorem DW.k_nil (h : DW P ops all K acc [] s) : DW P ops all K acc [] s := h
end
/-! what an operation touches, reckoned -/
def xT : Operand → List Nat
  | .tmp t => [t]
  | _ => []
def xsT : List Operand → List Nat
  | [] => []
  | x :: l => xT x ++ xsT l
def psT : List (Nat × Operand) → List Nat
  | [] => []
  | p :: l => xT p.2 ++ psT l
def oT : Option Operand → List Nat
  | some x => xT x
  | none => []
def cT : Callee → List Nat
  | .value f => xT f
  | _ => []
def opT : Op → List Nat
  | .move x => xT x
  | .assign x => xT x
  | .box _ x => xT x
  | .load _ x => xT x
  | .nilCheck x => xT x
  | .unOp _ _ x => xT x
  | .convert _ _ x => xT x
  | .fieldAddr _ x _ => xT x
  | .field _ x _ => xT x
  | .extract x _ => xT x
  | .pick c a b => xT c ++ (xT a ++ xT b)
  | .build _ ps => psT ps.toList
  | .buildSlice _ _ ps => psT ps.toList
  | .store _ a v => xT a ++ xT v
  | .binOp _ _ a v _ => xT a ++ xT v
  | .makeSlice _ a v => xT a ++ xT v
  | .indexAddr _ a v => xT a ++ xT v
  | .index _ a v => xT a ++ xT v
  | .makeFunc _ a b => xsT a.toList ++ xsT b.toList
  | .slice _ x l h m => xT x ++ (oT l ++ (oT h ++ oT m))
  | .lookup _ a v _ => xT a ++ xT v
  | .mapUpdate _ a k v => xT a ++ (xT k ++ xT v)
  | .mapEntry _ a v => xT a ++ xT v
  | .entryStore _ a k v => xT a ++ (xT k ++ xT v)
  | .typeAssert x _ _ _ => xT x
  | .makeInterface _ x => xT x
  | .sliceToArrayPointer _ x => xT x
  | .call c => cT c.callee ++ xsT c.args.toList
  | _ => []
def gT (ops : Array Oper) : Option (Nat × Bool) → List Nat
  | none => []
  | some (j, _) => match ops[j]? with
    | some o => match o.dst with
      | some d => [d]
      | none => []
    | none => []
def opTs (ops : Array Oper) (o : Oper) : List Nat := opT o.op ++ gT ops o.guard
mutual
def bxs : AV → List Nat
  | .bp b _ _ => [b]
  | .ep b _ _ _ _ => [b]
  | .hd b _ => [b]
  | .hf b _ => [b]
  | .sb b _ _ _ => [b]
  | .fn _ c => bxl c
  | .ag l => bxl l
  | .tu l => bxl l
  | _ => []
def bxl : List AV → List Nat
  | [] => []
  | a :: l => bxs a ++ bxl l
end
def hdx : AV → List Nat
  | .hd b _ => [b]
  | .hf b _ => [b]
  | .sb b _ _ _ => [b]
  | _ => []
def hdl : List AV → List Nat
  | [] => []
  | a :: l => hdx a ++ hdl l
def cdl (b : List Sl) (j : Nat) : List Nat :=
  match b[j]? with
  | some ⟨_, .c _ l⟩ => hdl l
  | _ => []
def clb (b : List Sl) : List Nat → List Nat
  | [] => []
  | j :: js => j :: (cdl b j ++ clb b js)
def ddl : Nat → Nat → List Sl → List Nat
  | 0, _, _ => []
  | _ + 1, _, [] => []
  | m + 1, n, ⟨_, .x⟩ :: l => n :: ddl m (n + 1) l
  | m + 1, n, _ :: l => ddl (m + 1) (n + 1) l
def axs (s : AS) : List Operand → List Nat
  | [] => []
  | x :: l => bxs (aev s x) ++ axs s l
def hxs (s : AS) : List Operand → List Nat
  | [] => []
  | x :: l => hdx (aev s x) ++ hxs s l
def pxs (s : AS) : List (Nat × Operand) → List Nat
  | [] => []
  | p :: l => hdl (aev s p.2).cells ++ pxs s l
def ftF (m : Nat) (s : AS) : Op → List Nat
  | .load _ x => bxs (aev s x)
  | .store _ x _ => bxs (aev s x)
  | .indexAddr _ x _ => hdx (aev s x)
  | .slice _ x _ _ _ => hdx (aev s x)
  | .call ⟨.builtin _, xs, _⟩ => hxs s xs.toList ++ ddl m 0 s.b
  | .call ⟨.value f, xs, _⟩ => clb s.b (bxs (aev s f) ++ axs s xs.toList) ++ ddl m 0 s.b
  | .buildSlice _ _ ps => pxs s ps.toList ++ ddl m 0 s.b
  | .box _ _ => ddl m 0 s.b
  | .alloc _ => ddl m 0 s.b
  | .makeSlice _ _ _ => ddl m 0 s.b
  | _ => []
section
variable {P : Program} {ops : Array Oper} {s s' : AS} {all : List Oper} {K : AS → Prop} {acc : List Fp} {l : List Oper} {op : Op} {ty : TypeId} {pos : String} {aft : Array Edge} {g : Option (Nat × Bool)} {d : Nat} {T F : List Nat} {av : AV} {b2 : List Sl}
theorem gtv_set {t : List AV} {t' : List AV} (h : t' = t.set d av) : gtv (some d) t' av := by
  subst h
  intro hd
  rw [List.getElem?_set]; simp; simpa using hd
theorem Mg.same {F : List Nat} {V : Nat → Nat} : ∀ {l : List Sl} {n : Nat}, Mg F V n l (msB F V n l) l
  | [], n => .nil
  | e :: l, n => by
    unfold msB
    cases h : inN n F with
    | true => exact .take h Mg.same
    | false => exact .keep h Mg.same
/-- a step that turns no memory -/
theorem DW.rd (m : Nat) (hT : opTs ops ⟨some d, op, ty, pos, aft, g⟩ = T) (hF : ftF m s op = F) (h : ∀ X V, AP P X ops (fun e s' => e = .normal ∧ s' = ⟨(msT T 0 s.t).set d av, msB F V 0 s.b⟩) [⟨some d, op, ty, pos, aft, g⟩] ⟨msT T 0 s.t, msB F V 0 s.b⟩)
    (hk : DW P ops all K (⟨T, some d, F, false⟩ :: acc) l ⟨s.t.set d av, s.b⟩) : DW P ops all K acc (⟨some d, op, ty, pos, aft, g⟩ :: l) s :=
  ⟨⟨⟨T, some d, F, false⟩, av, s.b⟩, rfl, rfl, fun _ => rfl, fun _ _ => rfl, frame fun X V => by
    intro a w hs
    refine wpList_mono1 (fun e a w ⟨s', h, _⟩ => h.1) ?_ (h X V a w hs)
    rintro e a w ⟨s', ⟨h1, rfl⟩, h2⟩
    exact ⟨_, ⟨h1, by simp [msT_len], gtv_set rfl, Mg.same⟩, h2⟩, hk⟩
theorem DW.rdN (m : Nat) (hT : opTs ops ⟨none, op, ty, pos, aft, g⟩ = T) (hF : ftF m s op = F) (h : ∀ X V, AP P X ops (fun e s' => e = .normal ∧ s' = ⟨msT T 0 s.t, msB F V 0 s.b⟩) [⟨none, op, ty, pos, aft, g⟩] ⟨msT T 0 s.t, msB F V 0 s.b⟩)
    (hk : DW P ops all K (⟨T, none, F, false⟩ :: acc) l s) : DW P ops all K acc (⟨none, op, ty, pos, aft, g⟩ :: l) s :=
  ⟨⟨⟨T, none, F, false⟩, .de, s.b⟩, rfl, rfl, fun _ => rfl, fun _ _ => rfl, frame fun X V => by
    intro a w hs
    refine wpList_mono1 (fun e a w ⟨s', h, _⟩ => h.1) ?_ (h X V a w hs)
    rintro e a w ⟨s', ⟨h1, rfl⟩, h2⟩
    exact ⟨_, ⟨h1, by simp [msT_len], trivial, Mg.same⟩, h2⟩, hk⟩
theorem mg_out (h : ∃ V : Nat → Nat, ∃ b1, Mg F V 0 s.b b1 b2) : b2.length = s.b.length ∧ ∀ j, inN j F = false → b2[j]? = s.b[j]? := by
  obtain ⟨V, b1, h⟩ := h
  refine ⟨h.len.2, fun j hj => ?_⟩
  have := (h.at_ j).2
  rw [Nat.zero_add] at this
  exact (this hj).1
/-- a step that does -/
theorem DW.st (m : Nat) (hT : opTs ops ⟨some d, op, ty, pos, aft, g⟩ = T) (hF : ftF m s op = F) (h : ∀ X V, AP P X ops (fun e s' => e = .normal ∧ s'.t = (msT T 0 s.t).set d av ∧ Mg F V 0 s.b s'.b b2) [⟨some d, op, ty, pos, aft, g⟩] ⟨msT T 0 s.t, msB F V 0 s.b⟩)
    (hb : (∃ V : Nat → Nat, ∃ b1, Mg F V 0 s.b b1 b2)) (hk : DW P ops all K (⟨T, some d, F, true⟩ :: acc) l ⟨s.t.set d av, b2⟩) : DW P ops all K acc (⟨some d, op, ty, pos, aft, g⟩ :: l) s :=
  ⟨⟨⟨T, some d, F, true⟩, av, b2⟩, rfl, (mg_out hb).1, fun h => (by cases h), (mg_out hb).2, frame fun X V => by
    intro a w hs
    refine wpList_mono1 (fun e a w ⟨s', h, _⟩ => h.1) ?_ (h X V a w hs)
    rintro e a w ⟨s', ⟨h1, h2, h3⟩, h4⟩
    exact ⟨_, ⟨h1, by rw [h2]; simp [msT_len], gtv_set h2, h3⟩, h4⟩, hk⟩
theorem DW.stN (m : Nat) (hT : opTs ops ⟨none, op, ty, pos, aft, g⟩ = T) (hF : ftF m s op = F) (h : ∀ X V, AP P X ops (fun e s' => e = .normal ∧ s'.t = msT T 0 s.t ∧ Mg F V 0 s.b s'.b b2) [⟨none, op, ty, pos, aft, g⟩] ⟨msT T 0 s.t, msB F V 0 s.b⟩)
    (hb : (∃ V : Nat → Nat, ∃ b1, Mg F V 0 s.b b1 b2)) (hk : DW P ops all K (⟨T, none, F, true⟩ :: acc) l ⟨s.t, b2⟩) : DW P ops all K acc (⟨none, op, ty, pos, aft, g⟩ :: l) s :=
  ⟨⟨⟨T, none, F, true⟩, .de, b2⟩, rfl, (mg_out hb).1, fun h => (by cases h), (mg_out hb).2, frame fun X V => by
    intro a w hs
    refine wpList_mono1 (fun e a w ⟨s', h, _⟩ => h.1) ?_ (h X V a w hs)
    rintro e a w ⟨s', ⟨h1, h2, h3⟩, h4⟩
    exact ⟨_, ⟨h1, by rw [h2]; simp [msT_len], trivial, h3⟩, h4⟩, hk⟩
/-- a guard that is not decided -/
theorem DW.split {o : Oper} {j : Nat} {b c : Bool} (hg : o.guard = some (j, b)) (hd : (ops[j]?).bind (·.dst) = some d) (hs : s.t.getD d .de = .sc (.bool c))
    (h1 : c = true → DW P ops all K acc (o :: l) ⟨s.t.set d (.sc (.bool true)), s.b⟩) (h2 : c = false → DW P ops all K acc (o :: l) ⟨s.t.set d (.sc (.bool false)), s.b⟩) : DW P ops all K acc (o :: l) s := by
  have key : s.t.set d (.sc (.bool c)) = s.t := by
    refine List.ext_getElem? fun i => ?_
    rw [List.getElem?_set]
    split
    · rename_i hi; subst hi
      split
      · rename_i hl
        rw [List.getD_eq_getElem?_getD, List.getElem?_eq_getElem hl] at hs
        rw [List.getElem?_eq_getElem hl, ← hs]; rfl
      · rename_i hl
        rw [List.getElem?_eq_none (by omega)]
    · rfl
  cases c with
  | true => have := h1 rfl; rwa [key] at this
  | false => have := h2 rfl; rwa [key] at this
end
theorem DW.known {P : Program} {ops : Array Oper} {s : AS} {all : List Oper} {K : AS → Prop} {acc : List Fp} {l : List Oper} {o : Oper} {r : Bool} (_h : gdS ops s o.guard = some r) (k : DW P ops all K acc (o :: l) s) : DW P ops all K acc (o :: l) s := k
theorem ft : type_of% (And.intro @opTs.eq_1 (And.intro @opT.eq_1 (And.intro @opT.eq_2 (And.intro @opT.eq_3 (And.intro @opT.eq_4 (And.intro @opT.eq_5 (And.intro @opT.eq_6 (And.intro @opT.eq_7 (And.intro @opT.eq_8 (And.intro @opT.eq_9 (And.intro @opT.eq_10 (And.intro @opT.eq_11 (And.intro @opT.eq_12 (And.intro @opT.eq_13 (And.intro @opT.eq_14 (And.intro @opT.eq_15 (And.intro @opT.eq_16 (And.intro @opT.eq_17 (And.intro @opT.eq_18 (And.intro @opT.eq_19 (And.intro @opT.eq_20 (And.intro @opT.eq_21 (And.intro @opT.eq_22 (And.intro @opT.eq_23 (And.intro @opT.eq_24 (And.intro @opT.eq_25 (And.intro @opT.eq_26 (And.intro @opT.eq_27 (And.intro @opT.eq_28 (And.intro @opT.eq_29 (And.intro @xT.eq_1 (And.intro @xT.eq_2 (And.intro @xsT.eq_1 (And.intro @xsT.eq_2 (And.intro @psT.eq_1 (And.intro @psT.eq_2 (And.intro @oT.eq_1 (And.intro @oT.eq_2 (And.intro @cT.eq_1 (And.intro @cT.eq_2 (And.intro @gT.eq_1 (And.intro @gT.eq_2 (And.intro @bxs.eq_1 (And.intro @bxs.eq_2 (And.intro @bxs.eq_3 (And.intro @bxs.eq_4 (And.intro @bxs.eq_5 (And.intro @bxs.eq_6 (And.intro @bxs.eq_7 (And.intro @bxs.eq_8 (And.intro @bxs.eq_9 (And.intro @bxl.eq_1 (And.intro @bxl.eq_2 (And.intro @hdx.eq_1 (And.intro @hdx.eq_2 (And.intro @hdx.eq_3 (And.intro @hdx.eq_4 (And.intro @hdl.eq_1 (And.intro @hdl.eq_2 (And.intro @cdl.eq_1 (And.intro @clb.eq_1 (And.intro @clb.eq_2 (And.intro @ddl.eq_1 (And.intro @ddl.eq_2 (And.intro @ddl.eq_3 (And.intro @ddl.eq_4 (And.intro @axs.eq_1 (And.intro @axs.eq_2 (And.intro @hxs.eq_1 (And.intro @hxs.eq_2 (And.intro @pxs.eq_1 (And.intro @pxs.eq_2 (And.intro @ftF.eq_1 (And.intro @ftF.eq_2 (And.intro @ftF.eq_3 (And.intro @ftF.eq_4 (And.intro @ftF.eq_5 (And.intro @ftF.eq_6 (And.intro @ftF.eq_7 (And.intro @ftF.eq_8 (And.intro @ftF.eq_9 (And.intro @ftF.eq_10 (And.intro @ftF.eq_11 (And.intro @inN.eq_1 (And.intro @inN.eq_2 (And.intro @msT.eq_1 (And.intro @msT.eq_2 (And.intro @msB.eq_1 (And.intro @msB.eq_2 (And.intro @List.nil_append.{0} (And.intro @List.cons_append.{0} @List.append_nil.{0}))))))))))))))))))))))))))))))))))))))))))))))))))))))))))))))))))))))))))))))))))))))))))) := (And.intro @opTs.eq_1 (And.intro @opT.eq_1 (And.intro @opT.eq_2 (And.intro @opT.eq_3 (And.intro @opT.eq_4 (And.intro @opT.eq_5 (And.intro @opT.eq_6 (And.intro @opT.eq_7 (And.intro @opT.eq_8 (And.intro @opT.eq_9 (And.intro @opT.eq_10 (And.intro @opT.eq_11 (And.intro @opT.eq_12 (And.intro @opT.eq_13 (And.intro @opT.eq_14 (And.intro @opT.eq_15 (And.intro @opT.eq_16 (And.intro @opT.eq_17 (And.intro @opT.eq_18 (And.intro @opT.eq_19 (And.intro @opT.eq_20 (And.intro @opT.eq_21 (And.intro @opT.eq_22 (And.intro @opT.eq_23 (And.intro @opT.eq_24 (And.intro @opT.eq_25 (And.intro @opT.eq_26 (And.intro @opT.eq_27 (And.intro @opT.eq_28 (And.intro @opT.eq_29 (And.intro @xT.eq_1 (And.intro @xT.eq_2 (And.intro @xsT.eq_1 (And.intro @xsT.eq_2 (And.intro @psT.eq_1 (And.intro @psT.eq_2 (And.intro @oT.eq_1 (And.intro @oT.eq_2 (And.intro @cT.eq_1 (And.intro @cT.eq_2 (And.intro @gT.eq_1 (And.intro @gT.eq_2 (And.intro @bxs.eq_1 (And.intro @bxs.eq_2 (And.intro @bxs.eq_3 (And.intro @bxs.eq_4 (And.intro @bxs.eq_5 (And.intro @bxs.eq_6 (And.intro @bxs.eq_7 (And.intro @bxs.eq_8 (And.intro @bxs.eq_9 (And.intro @bxl.eq_1 (And.intro @bxl.eq_2 (And.intro @hdx.eq_1 (And.intro @hdx.eq_2 (And.intro @hdx.eq_3 (And.intro @hdx.eq_4 (And.intro @hdl.eq_1 (And.intro @hdl.eq_2 (And.intro @cdl.eq_1 (And.intro @clb.eq_1 (And.intro @clb.eq_2 (And.intro @ddl.eq_1 (And.intro @ddl.eq_2 (And.intro @ddl.eq_3 (And.intro @ddl.eq_4 (And.intro @axs.eq_1 (And.intro @axs.eq_2 (And.intro @hxs.eq_1 (And.intro @hxs.eq_2 (And.intro @pxs.eq_1 (And.intro @pxs.eq_2 (And.intro @ftF.eq_1 (And.intro @ftF.eq_2 (And.intro @ftF.eq_3 (And.intro @ftF.eq_4 (And.intro @ftF.eq_5 (And.intro @ftF.eq_6 (And.intro @ftF.eq_7 (And.intro @ftF.eq_8 (And.intro @ftF.eq_9 (And.intro @ftF.eq_10 (And.intro @ftF.eq_11 (And.intro @inN.eq_1 (And.intro @inN.eq_2 (And.intro @msT.eq_1 (And.intro @msT.eq_2 (And.intro @msB.eq_1 (And.intro @msB.eq_2 (And.intro @List.nil_append.{0} (And.intro @List.cons_append.{0} @List.append_nil.{0})))))))))))))))))))))))))))))))))))))))))))))))))))))))))))))))))))))))))))))))))))))))))))
end Go.Proofs.Ytpdegeknhapgmaa

namespace Go.Proofs.Ytpdegeknhapgmaa
set_option linter.unusedVariables false
set_option linter.unusedSimpArgs false
set_option maxHeartbeats 8000000
open Go.RowKit
set_option maxRecDepth 100000
abbrev tMsg : TypeId := 43
structure Msg where
  kind : UInt8
  client : Int
  id : Int
  body : List UInt8
  upto : Int
  frm : Int
  entries : List Entry
  have_ : Int
  done : Int
  cfg : Config
  since : Int
abbrev eG (m : Msg) : List AV := [U m.kind, I m.client, I m.id, bs none m.body, I m.upto, I m.frm, es none none m.entries, I m.have_, I m.done, I m.cfg.epoch, ms none m.cfg.members, I m.since]
abbrev fnv (f : Nat) : AV := .sc (.func (.func f) #[] #[])
def Msg.small (m : Msg) : Prop := m.body.length ≤ 100000000 ∧ m.entries.length ≤ 100000000 ∧ m.cfg.members.length ≤ 100000000 ∧ ∀ e ∈ m.entries, e.body.length ≤ 100000000
def cfg0 : Config := ⟨0, []⟩
def msg0 : Msg := ⟨0, 0, 0, [], 0, 0, [], 0, 0, cfg0, 0⟩
/-! of each kind: whether it may be; without its fields -/
def mayAsk (m : Msg) : Bool := clientS m.client m.id && decide (m.body.length ≤ 20000)
def mayHave (m : Msg) : Bool := decide (0 ≤ m.done) && decide (m.done ≤ m.have_)
def mayWhole (m : Msg) : Bool := decide (1 ≤ m.since)
def bareAsk (m : Msg) : Msg := { m with client := 0, id := 0, body := [] }
def bareHave (m : Msg) : Msg := { m with have_ := 0, done := 0 }
def bareCfg (m : Msg) : Msg := { m with cfg := cfg0 }
def bareWhole (m : Msg) : Msg := { m with since := 0 }
def bareEnt (m : Msg) : Msg := { m with upto := 0, frm := 0, entries := [] }
theorem kmay1_ac (m : Msg) : AC Try.prog 93 [.ag (eG m)] [] (fun v bs => v = B (mayAsk m) ∧ bs = []) := by
  refine AC.enter Try.func93 rfl rfl Try.ntmps93 (fl1_all rfl) (by (repeat' (first | exact Bk.nil | apply Bk.cons rfl rfl rfl))) ?_
  intro X
  simp only [nm, newS, plc, spl, bldA, bldS, zrow, chunks, ZC.val, Nat.reduceAdd, Nat.reduceSub, BEq.rfl]
  repeat' (first
    | ((first
    | ((with_reducible apply AP.k_any); first
             | (refine AP.sm false rfl ?_ ?_; focus ((repeat' (with_reducible apply And.intro)) <;> (first | exact True.intro | exact rfl | omega | (simp; omega) | (simp; done) | assumption | exact .inl rfl | (refine .inr ?_; simp; try omega))))
             | (refine AP.gyes rfl rfl rfl ?_; dsimp only) | (refine AP.gsplit rfl rfl rfl (fun hg => ?_) (fun hg => ?_))
      )
    | ((with_reducible apply AP.k_any); refine ap_callX rfl rfl (fn := 47) rfl (client_ac _ _) (by (repeat' (first | exact PasC.nil | apply PasC.nil | apply PasC.cons | apply PasV.leaf rfl | apply PasV.nl | apply PasV.bp rfl | apply PasV.lend rfl rfl rfl | apply PasV.lend rfl rfl (ro_B _) | apply PasV.lend rfl rfl (ro_M _) | apply PasV.lend rfl rfl (ro_E _ _) | apply PasV.lend rfl rfl (ro_I _) | apply PasV.mv rfl | apply PasV.ag | apply PasV.fn | exact PasV.fs | apply PasV.any))) rfl rfl ?_)
    )
      <;> (try simp only [nm, newS, plc, spl, bldA, bldS, zrow, chunks, ZC.val, Nat.reduceAdd, Nat.reduceSub, BEq.rfl]))
    | ((with_reducible apply AP.k_nil); first
        | (refine AP.nil (hQ' _ ?_); clear hQ' Q')
        | refine AP.nil ?_)
    | ((with_reducible apply CP.k_reg); refine cp_regG fun Q' hQ' => ?_)
      | (with_reducible apply CP.k_reg1; refine cp_region ?_)
      | ((with_reducible apply CP.k_cond); first
          | refine cp_condT rfl ?_
          | refine cp_condF rfl ?_
          | refine cp_cond rfl (fun hc => ?_) (fun hc => ?_))
      | (with_reducible first | refine cp_block ?_ | refine cp_exit ?_ | refine cp_ret ?_ | refine cp_skip ?_ | refine cp_seq ?_ | refine inB_hit ?_ | refine inB_n ?_ | refine inB_r ?_ | refine thenQ_n ?_ | refine thenQ_r ?_ | refine thenQ_e ?_ | refine cpn_succ ?_)
      | (refine inB_miss rfl ?_)
      | (simp only [List.append_eq, List.cons_append, List.nil_append]))
  all_goals (apply RetQ.mk2 (ks := []) (by first | exact .inr rfl | exact .inl rfl); (iterate 5 (focus ((repeat' (first | exact RnV.leaf rfl | exact RnC.nil | apply RnC.cons | apply RnV.ag | apply RnV.tu | exact RnV.bp rfl | exact ResL.nil | apply ResL.cons (Res1.row rfl rfl rfl rfl rfl) | apply ResL.cons (Res1.flat rfl rfl rfl rfl rfl) | apply ResL.cons (Res1.tmp (by (try simp only [List.getD_cons_succ, List.getD_cons_zero]); exact rfl)) | exact ClsC.nil | exact ClsL.nil | apply ClsC.nl | apply ClsC.leaf rfl | apply ClsC.hd rfl | apply ClsC.fn | apply ClsR.tu | apply ClsL.cons | apply ClsV.ag | exact ClsV.bp | exact ClsV.one (ClsC.leaf rfl ClsC.nil) | exact ClsV.one (ClsC.nl ClsC.nil) | exact ClsV.one (ClsC.hd rfl ClsC.nil) | apply ClsR.one | exact Out.nil | apply Out.cons rfl | exact hks_of rfl)); done))); (try dsimp only [resV, List.getD_cons_succ, List.getD_cons_zero]); ((refine ⟨?_, rfl⟩; simp at *; simp [mayAsk, *]; try omega)))
theorem kmay5_ac (m : Msg) : AC Try.prog 98 [.ag (eG m)] [] (fun v bs => v = B (mayHave m) ∧ bs = []) := by
  refine AC.enter Try.func98 rfl rfl Try.ntmps98 (fl1_all rfl) (by (repeat' (first | exact Bk.nil | apply Bk.cons rfl rfl rfl))) ?_
  intro X
  simp only [nm, newS, plc, spl, bldA, bldS, zrow, chunks, ZC.val, Nat.reduceAdd, Nat.reduceSub, BEq.rfl]
  repeat' (first
    | ((first
    | ((with_reducible apply AP.k_any); first
             | (refine AP.sm false rfl ?_ ?_; focus ((repeat' (with_reducible apply And.intro)) <;> (first | exact True.intro | exact rfl | omega | (simp; omega) | (simp; done) | assumption | exact .inl rfl | (refine .inr ?_; simp; try omega))))
             | (refine AP.gyes rfl rfl rfl ?_; dsimp only) | (refine AP.gsplit rfl rfl rfl (fun hg => ?_) (fun hg => ?_))
      )
    
    )
      <;> (try simp only [nm, newS, plc, spl, bldA, bldS, zrow, chunks, ZC.val, Nat.reduceAdd, Nat.reduceSub, BEq.rfl]))
    | ((with_reducible apply AP.k_nil); first
        | (refine AP.nil (hQ' _ ?_); clear hQ' Q')
        | refine AP.nil ?_)
    | ((with_reducible apply CP.k_reg); refine cp_regG fun Q' hQ' => ?_)
      | (with_reducible apply CP.k_reg1; refine cp_region ?_)
      | ((with_reducible apply CP.k_cond); first
          | refine cp_condT rfl ?_
          | refine cp_condF rfl ?_
          | refine cp_cond rfl (fun hc => ?_) (fun hc => ?_))
      | (with_reducible first | refine cp_block ?_ | refine cp_exit ?_ | refine cp_ret ?_ | refine cp_skip ?_ | refine cp_seq ?_ | refine inB_hit ?_ | refine inB_n ?_ | refine inB_r ?_ | refine thenQ_n ?_ | refine thenQ_r ?_ | refine thenQ_e ?_ | refine cpn_succ ?_)
      | (refine inB_miss rfl ?_)
      | (simp only [List.append_eq, List.cons_append, List.nil_append]))
  all_goals (apply RetQ.mk2 (ks := []) (by first | exact .inr rfl | exact .inl rfl); (iterate 5 (focus ((repeat' (first | exact RnV.leaf rfl | exact RnC.nil | apply RnC.cons | apply RnV.ag | apply RnV.tu | exact RnV.bp rfl | exact ResL.nil | apply ResL.cons (Res1.row rfl rfl rfl rfl rfl) | apply ResL.cons (Res1.flat rfl rfl rfl rfl rfl) | apply ResL.cons (Res1.tmp (by (try simp only [List.getD_cons_succ, List.getD_cons_zero]); exact rfl)) | exact ClsC.nil | exact ClsL.nil | apply ClsC.nl | apply ClsC.leaf rfl | apply ClsC.hd rfl | apply ClsC.fn | apply ClsR.tu | apply ClsL.cons | apply ClsV.ag | exact ClsV.bp | exact ClsV.one (ClsC.leaf rfl ClsC.nil) | exact ClsV.one (ClsC.nl ClsC.nil) | exact ClsV.one (ClsC.hd rfl ClsC.nil) | apply ClsR.one | exact Out.nil | apply Out.cons rfl | exact hks_of rfl)); done))); (try dsimp only [resV, List.getD_cons_succ, List.getD_cons_zero]); ((refine ⟨?_, rfl⟩; simp at *; simp [mayHave, *]; try omega)))
theorem kmay9_ac (m : Msg) (hl : m.cfg.members.length ≤ 100000000) : AC Try.prog 102 [.ag (eG m)] [] (fun v bs => v = B (mayCfg m.cfg) ∧ bs = []) := by
  refine AC.enter Try.func102 rfl rfl Try.ntmps102 (fl1_all rfl) (by (repeat' (first | exact Bk.nil | apply Bk.cons rfl rfl rfl))) ?_
  intro X
  simp only [nm, newS, plc, spl, bldA, bldS, zrow, chunks, ZC.val, Nat.reduceAdd, Nat.reduceSub, BEq.rfl]
  repeat' (first
    | ((first
    | ((with_reducible apply AP.k_any); first
             | (refine AP.sm false rfl ?_ ?_; focus ((repeat' (with_reducible apply And.intro)) <;> (first | exact True.intro | exact rfl | omega | (simp; omega) | (simp; done) | assumption | exact .inl rfl | (refine .inr ?_; simp; try omega))))
      )
    | ((with_reducible apply AP.k_any); refine ap_callX rfl rfl (fn := 19) rfl (mayConfig_ac m.cfg hl) (by (repeat' (first | exact PasC.nil | apply PasC.nil | apply PasC.cons | apply PasV.leaf rfl | apply PasV.nl | apply PasV.bp rfl | apply PasV.lend rfl rfl rfl | apply PasV.lend rfl rfl (ro_B _) | apply PasV.lend rfl rfl (ro_M _) | apply PasV.lend rfl rfl (ro_E _ _) | apply PasV.lend rfl rfl (ro_I _) | apply PasV.mv rfl | apply PasV.ag | apply PasV.fn | exact PasV.fs | apply PasV.any))) rfl rfl ?_)
    )
      <;> (try simp only [nm, newS, plc, spl, bldA, bldS, zrow, chunks, ZC.val, Nat.reduceAdd, Nat.reduceSub, BEq.rfl]))
    | ((with_reducible apply AP.k_nil); first
        | (refine AP.nil (hQ' _ ?_); clear hQ' Q')
        | refine AP.nil ?_)
    | ((with_reducible apply CP.k_reg); refine cp_regG fun Q' hQ' => ?_)
      | (with_reducible apply CP.k_reg1; refine cp_region ?_)
      | ((with_reducible apply CP.k_cond); first
          | refine cp_condT rfl ?_
          | refine cp_condF rfl ?_
          | refine cp_cond rfl (fun hc => ?_) (fun hc => ?_))
      | (with_reducible first | refine cp_block ?_ | refine cp_exit ?_ | refine cp_ret ?_ | refine cp_skip ?_ | refine cp_seq ?_ | refine inB_hit ?_ | refine inB_n ?_ | refine inB_r ?_ | refine thenQ_n ?_ | refine thenQ_r ?_ | refine thenQ_e ?_ | refine cpn_succ ?_)
      | (refine inB_miss rfl ?_)
      | (simp only [List.append_eq, List.cons_append, List.nil_append]))
  all_goals (apply RetQ.mk2 (ks := []) (by first | exact .inr rfl | exact .inl rfl); (iterate 5 (focus ((repeat' (first | exact RnV.leaf rfl | exact RnC.nil | apply RnC.cons | apply RnV.ag | apply RnV.tu | exact RnV.bp rfl | exact ResL.nil | apply ResL.cons (Res1.row rfl rfl rfl rfl rfl) | apply ResL.cons (Res1.flat rfl rfl rfl rfl rfl) | apply ResL.cons (Res1.tmp (by (try simp only [List.getD_cons_succ, List.getD_cons_zero]); exact rfl)) | exact ClsC.nil | exact ClsL.nil | apply ClsC.nl | apply ClsC.leaf rfl | apply ClsC.hd rfl | apply ClsC.fn | apply ClsR.tu | apply ClsL.cons | apply ClsV.ag | exact ClsV.bp | exact ClsV.one (ClsC.leaf rfl ClsC.nil) | exact ClsV.one (ClsC.nl ClsC.nil) | exact ClsV.one (ClsC.hd rfl ClsC.nil) | apply ClsR.one | exact Out.nil | apply Out.cons rfl | exact hks_of rfl)); done))); (try dsimp only [resV, List.getD_cons_succ, List.getD_cons_zero]); (exact ⟨rfl, rfl⟩))
theorem kmay13_ac (m : Msg) : AC Try.prog 106 [.ag (eG m)] [] (fun v bs => v = B (mayWhole m) ∧ bs = []) := by
  refine AC.enter Try.func106 rfl rfl Try.ntmps106 (fl1_all rfl) (by (repeat' (first | exact Bk.nil | apply Bk.cons rfl rfl rfl))) ?_
  intro X
  simp only [nm, newS, plc, spl, bldA, bldS, zrow, chunks, ZC.val, Nat.reduceAdd, Nat.reduceSub, BEq.rfl]
  repeat' (first
    | ((first
    | ((with_reducible apply AP.k_any); first
             | (refine AP.sm false rfl ?_ ?_; focus ((repeat' (with_reducible apply And.intro)) <;> (first | exact True.intro | exact rfl | omega | (simp; omega) | (simp; done) | assumption | exact .inl rfl | (refine .inr ?_; simp; try omega))))
      )
    
    )
      <;> (try simp only [nm, newS, plc, spl, bldA, bldS, zrow, chunks, ZC.val, Nat.reduceAdd, Nat.reduceSub, BEq.rfl]))
    | ((with_reducible apply AP.k_nil); first
        | (refine AP.nil (hQ' _ ?_); clear hQ' Q')
        | refine AP.nil ?_)
    | ((with_reducible apply CP.k_reg); refine cp_regG fun Q' hQ' => ?_)
      | (with_reducible apply CP.k_reg1; refine cp_region ?_)
      | ((with_reducible apply CP.k_cond); first
          | refine cp_condT rfl ?_
          | refine cp_condF rfl ?_
          | refine cp_cond rfl (fun hc => ?_) (fun hc => ?_))
      | (with_reducible first | refine cp_block ?_ | refine cp_exit ?_ | refine cp_ret ?_ | refine cp_skip ?_ | refine cp_seq ?_ | refine inB_hit ?_ | refine inB_n ?_ | refine inB_r ?_ | refine thenQ_n ?_ | refine thenQ_r ?_ | refine thenQ_e ?_ | refine cpn_succ ?_)
      | (refine inB_miss rfl ?_)
      | (simp only [List.append_eq, List.cons_append, List.nil_append]))
  all_goals (apply RetQ.mk2 (ks := []) (by first | exact .inr rfl | exact .inl rfl); (iterate 5 (focus ((repeat' (first | exact RnV.leaf rfl | exact RnC.nil | apply RnC.cons | apply RnV.ag | apply RnV.tu | exact RnV.bp rfl | exact ResL.nil | apply ResL.cons (Res1.row rfl rfl rfl rfl rfl) | apply ResL.cons (Res1.flat rfl rfl rfl rfl rfl) | apply ResL.cons (Res1.tmp (by (try simp only [List.getD_cons_succ, List.getD_cons_zero]); exact rfl)) | exact ClsC.nil | exact ClsL.nil | apply ClsC.nl | apply ClsC.leaf rfl | apply ClsC.hd rfl | apply ClsC.fn | apply ClsR.tu | apply ClsL.cons | apply ClsV.ag | exact ClsV.bp | exact ClsV.one (ClsC.leaf rfl ClsC.nil) | exact ClsV.one (ClsC.nl ClsC.nil) | exact ClsV.one (ClsC.hd rfl ClsC.nil) | apply ClsR.one | exact Out.nil | apply Out.cons rfl | exact hks_of rfl)); done))); (try dsimp only [resV, List.getD_cons_succ, List.getD_cons_zero]); ((refine ⟨?_, rfl⟩; simp at *; simp [mayWhole, *]; try omega)))
theorem kbare2_ac (m : Msg) : AC Try.prog 94 [.ag (eG m)] [] (fun v bs => v = .ag (eG (bareAsk m)) ∧ bs = []) := by
  refine AC.enter Try.func94 rfl rfl Try.ntmps94 (fl1_all rfl) (by (repeat' (first | exact Bk.nil | apply Bk.cons rfl rfl rfl))) ?_
  intro X
  simp only [nm, newS, plc, spl, bldA, bldS, zrow, chunks, ZC.val, Nat.reduceAdd, Nat.reduceSub, BEq.rfl]
  repeat' (first
    | ((first
    | ((with_reducible apply AP.k_any); first
             | (refine AP.sm false rfl ?_ ?_; focus ((repeat' (with_reducible apply And.intro)) <;> (first | exact True.intro | exact rfl | omega | (simp; omega) | (simp; done) | assumption | exact .inl rfl | (refine .inr ?_; simp; try omega))))
      )
    
    )
      <;> (try simp only [nm, newS, plc, spl, bldA, bldS, zrow, chunks, ZC.val, Nat.reduceAdd, Nat.reduceSub, BEq.rfl]))
    | ((with_reducible apply AP.k_nil); first
        | (refine AP.nil (hQ' _ ?_); clear hQ' Q')
        | refine AP.nil ?_)
    | ((with_reducible apply CP.k_reg); refine cp_regG fun Q' hQ' => ?_)
      | (with_reducible apply CP.k_reg1; refine cp_region ?_)
      | ((with_reducible apply CP.k_cond); first
          | refine cp_condT rfl ?_
          | refine cp_condF rfl ?_
          | refine cp_cond rfl (fun hc => ?_) (fun hc => ?_))
      | (with_reducible first | refine cp_block ?_ | refine cp_exit ?_ | refine cp_ret ?_ | refine cp_skip ?_ | refine cp_seq ?_ | refine inB_hit ?_ | refine inB_n ?_ | refine inB_r ?_ | refine thenQ_n ?_ | refine thenQ_r ?_ | refine thenQ_e ?_ | refine cpn_succ ?_)
      | (refine inB_miss rfl ?_)
      | (simp only [List.append_eq, List.cons_append, List.nil_append]))
  (apply RetQ.mk (ks := []) (by first | exact .inr rfl | exact .inl rfl) (by exact ⟨rfl, rfl⟩) <;> ((repeat' (first | exact RnV.leaf rfl | exact RnC.nil | apply RnC.cons | apply RnV.ag | apply RnV.tu | exact RnV.bp rfl | exact ResL.nil | apply ResL.cons (Res1.row rfl rfl rfl rfl rfl) | apply ResL.cons (Res1.flat rfl rfl rfl rfl rfl) | apply ResL.cons (Res1.tmp (by (try simp only [List.getD_cons_succ, List.getD_cons_zero]); exact rfl)) | exact ClsC.nil | exact ClsL.nil | apply ClsC.nl | apply ClsC.leaf rfl | apply ClsC.hd rfl | apply ClsC.fn | apply ClsR.tu | apply ClsL.cons | apply ClsV.ag | exact ClsV.bp | exact ClsV.one (ClsC.leaf rfl ClsC.nil) | exact ClsV.one (ClsC.nl ClsC.nil) | exact ClsV.one (ClsC.hd rfl ClsC.nil) | apply ClsR.one | exact Out.nil | apply Out.cons rfl | exact hks_of rfl)); done))
theorem kbare6_ac (m : Msg) : AC Try.prog 99 [.ag (eG m)] [] (fun v bs => v = .ag (eG (bareHave m)) ∧ bs = []) := by
  refine AC.enter Try.func99 rfl rfl Try.ntmps99 (fl1_all rfl) (by (repeat' (first | exact Bk.nil | apply Bk.cons rfl rfl rfl))) ?_
  intro X
  simp only [nm, newS, plc, spl, bldA, bldS, zrow, chunks, ZC.val, Nat.reduceAdd, Nat.reduceSub, BEq.rfl]
  repeat' (first
    | ((first
    | ((with_reducible apply AP.k_any); first
             | (refine AP.sm false rfl ?_ ?_; focus ((repeat' (with_reducible apply And.intro)) <;> (first | exact True.intro | exact rfl | omega | (simp; omega) | (simp; done) | assumption | exact .inl rfl | (refine .inr ?_; simp; try omega))))
      )
    
    )
      <;> (try simp only [nm, newS, plc, spl, bldA, bldS, zrow, chunks, ZC.val, Nat.reduceAdd, Nat.reduceSub, BEq.rfl]))
    | ((with_reducible apply AP.k_nil); first
        | (refine AP.nil (hQ' _ ?_); clear hQ' Q')
        | refine AP.nil ?_)
    | ((with_reducible apply CP.k_reg); refine cp_regG fun Q' hQ' => ?_)
      | (with_reducible apply CP.k_reg1; refine cp_region ?_)
      | ((with_reducible apply CP.k_cond); first
          | refine cp_condT rfl ?_
          | refine cp_condF rfl ?_
          | refine cp_cond rfl (fun hc => ?_) (fun hc => ?_))
      | (with_reducible first | refine cp_block ?_ | refine cp_exit ?_ | refine cp_ret ?_ | refine cp_skip ?_ | refine cp_seq ?_ | refine inB_hit ?_ | refine inB_n ?_ | refine inB_r ?_ | refine thenQ_n ?_ | refine thenQ_r ?_ | refine thenQ_e ?_ | refine cpn_succ ?_)
      | (refine inB_miss rfl ?_)
      | (simp only [List.append_eq, List.cons_append, List.nil_append]))
  (apply RetQ.mk (ks := []) (by first | exact .inr rfl | exact .inl rfl) (by exact ⟨rfl, rfl⟩) <;> ((repeat' (first | exact RnV.leaf rfl | exact RnC.nil | apply RnC.cons | apply RnV.ag | apply RnV.tu | exact RnV.bp rfl | exact ResL.nil | apply ResL.cons (Res1.row rfl rfl rfl rfl rfl) | apply ResL.cons (Res1.flat rfl rfl rfl rfl rfl) | apply ResL.cons (Res1.tmp (by (try simp only [List.getD_cons_succ, List.getD_cons_zero]); exact rfl)) | exact ClsC.nil | exact ClsL.nil | apply ClsC.nl | apply ClsC.leaf rfl | apply ClsC.hd rfl | apply ClsC.fn | apply ClsR.tu | apply ClsL.cons | apply ClsV.ag | exact ClsV.bp | exact ClsV.one (ClsC.leaf rfl ClsC.nil) | exact ClsV.one (ClsC.nl ClsC.nil) | exact ClsV.one (ClsC.hd rfl ClsC.nil) | apply ClsR.one | exact Out.nil | apply Out.cons rfl | exact hks_of rfl)); done))
theorem kbare10_ac (m : Msg) : AC Try.prog 103 [.ag (eG m)] [] (fun v bs => v = .ag (eG (bareCfg m)) ∧ bs = []) := by
  refine AC.enter Try.func103 rfl rfl Try.ntmps103 (fl1_all rfl) (by (repeat' (first | exact Bk.nil | apply Bk.cons rfl rfl rfl))) ?_
  intro X
  simp only [nm, newS, plc, spl, bldA, bldS, zrow, chunks, ZC.val, Nat.reduceAdd, Nat.reduceSub, BEq.rfl]
  repeat' (first
    | ((first
    | ((with_reducible apply AP.k_any); first
             | (refine AP.sm false rfl ?_ ?_; focus ((repeat' (with_reducible apply And.intro)) <;> (first | exact True.intro | exact rfl | omega | (simp; omega) | (simp; done) | assumption | exact .inl rfl | (refine .inr ?_; simp; try omega))))
      )
    
    )
      <;> (try simp only [nm, newS, plc, spl, bldA, bldS, zrow, chunks, ZC.val, Nat.reduceAdd, Nat.reduceSub, BEq.rfl]))
    | ((with_reducible apply AP.k_nil); first
        | (refine AP.nil (hQ' _ ?_); clear hQ' Q')
        | refine AP.nil ?_)
    | ((with_reducible apply CP.k_reg); refine cp_regG fun Q' hQ' => ?_)
      | (with_reducible apply CP.k_reg1; refine cp_region ?_)
      | ((with_reducible apply CP.k_cond); first
          | refine cp_condT rfl ?_
          | refine cp_condF rfl ?_
          | refine cp_cond rfl (fun hc => ?_) (fun hc => ?_))
      | (with_reducible first | refine cp_block ?_ | refine cp_exit ?_ | refine cp_ret ?_ | refine cp_skip ?_ | refine cp_seq ?_ | refine inB_hit ?_ | refine inB_n ?_ | refine inB_r ?_ | refine thenQ_n ?_ | refine thenQ_r ?_ | refine thenQ_e ?_ | refine cpn_succ ?_)
      | (refine inB_miss rfl ?_)
      | (simp only [List.append_eq, List.cons_append, List.nil_append]))
  (apply RetQ.mk (ks := []) (by first | exact .inr rfl | exact .inl rfl) (by exact ⟨rfl, rfl⟩) <;> ((repeat' (first | exact RnV.leaf rfl | exact RnC.nil | apply RnC.cons | apply RnV.ag | apply RnV.tu | exact RnV.bp rfl | exact ResL.nil | apply ResL.cons (Res1.row rfl rfl rfl rfl rfl) | apply ResL.cons (Res1.flat rfl rfl rfl rfl rfl) | apply ResL.cons (Res1.tmp (by (try simp only [List.getD_cons_succ, List.getD_cons_zero]); exact rfl)) | exact ClsC.nil | exact ClsL.nil | apply ClsC.nl | apply ClsC.leaf rfl | apply ClsC.hd rfl | apply ClsC.fn | apply ClsR.tu | apply ClsL.cons | apply ClsV.ag | exact ClsV.bp | exact ClsV.one (ClsC.leaf rfl ClsC.nil) | exact ClsV.one (ClsC.nl ClsC.nil) | exact ClsV.one (ClsC.hd rfl ClsC.nil) | apply ClsR.one | exact Out.nil | apply Out.cons rfl | exact hks_of rfl)); done))
theorem kbare14_ac (m : Msg) : AC Try.prog 107 [.ag (eG m)] [] (fun v bs => v = .ag (eG (bareWhole m)) ∧ bs = []) := by
  refine AC.enter Try.func107 rfl rfl Try.ntmps107 (fl1_all rfl) (by (repeat' (first | exact Bk.nil | apply Bk.cons rfl rfl rfl))) ?_
  intro X
  simp only [nm, newS, plc, spl, bldA, bldS, zrow, chunks, ZC.val, Nat.reduceAdd, Nat.reduceSub, BEq.rfl]
  repeat' (first
    | ((first
    | ((with_reducible apply AP.k_any); first
             | (refine AP.sm false rfl ?_ ?_; focus ((repeat' (with_reducible apply And.intro)) <;> (first | exact True.intro | exact rfl | omega | (simp; omega) | (simp; done) | assumption | exact .inl rfl | (refine .inr ?_; simp; try omega))))
      )
    
    )
      <;> (try simp only [nm, newS, plc, spl, bldA, bldS, zrow, chunks, ZC.val, Nat.reduceAdd, Nat.reduceSub, BEq.rfl]))
    | ((with_reducible apply AP.k_nil); first
        | (refine AP.nil (hQ' _ ?_); clear hQ' Q')
        | refine AP.nil ?_)
    | ((with_reducible apply CP.k_reg); refine cp_regG fun Q' hQ' => ?_)
      | (with_reducible apply CP.k_reg1; refine cp_region ?_)
      | ((with_reducible apply CP.k_cond); first
          | refine cp_condT rfl ?_
          | refine cp_condF rfl ?_
          | refine cp_cond rfl (fun hc => ?_) (fun hc => ?_))
      | (with_reducible first | refine cp_block ?_ | refine cp_exit ?_ | refine cp_ret ?_ | refine cp_skip ?_ | refine cp_seq ?_ | refine inB_hit ?_ | refine inB_n ?_ | refine inB_r ?_ | refine thenQ_n ?_ | refine thenQ_r ?_ | refine thenQ_e ?_ | refine cpn_succ ?_)
      | (refine inB_miss rfl ?_)
      | (simp only [List.append_eq, List.cons_append, List.nil_append]))
  (apply RetQ.mk (ks := []) (by first | exact .inr rfl | exact .inl rfl) (by exact ⟨rfl, rfl⟩) <;> ((repeat' (first | exact RnV.leaf rfl | exact RnC.nil | apply RnC.cons | apply RnV.ag | apply RnV.tu | exact RnV.bp rfl | exact ResL.nil | apply ResL.cons (Res1.row rfl rfl rfl rfl rfl) | apply ResL.cons (Res1.flat rfl rfl rfl rfl rfl) | apply ResL.cons (Res1.tmp (by (try simp only [List.getD_cons_succ, List.getD_cons_zero]); exact rfl)) | exact ClsC.nil | exact ClsL.nil | apply ClsC.nl | apply ClsC.leaf rfl | apply ClsC.hd rfl | apply ClsC.fn | apply ClsR.tu | apply ClsL.cons | apply ClsV.ag | exact ClsV.bp | exact ClsV.one (ClsC.leaf rfl ClsC.nil) | exact ClsV.one (ClsC.nl ClsC.nil) | exact ClsV.one (ClsC.hd rfl ClsC.nil) | apply ClsR.one | exact Out.nil | apply Out.cons rfl | exact hks_of rfl)); done))
theorem ebare2_ac (m : Msg) : AC Try.prog 120 [.ag (eG m)] [] (fun v bs => v = .ag (eG (bareEnt m)) ∧ bs = []) := by
  refine AC.enter Try.func120 rfl rfl Try.ntmps120 (fl1_all rfl) (by (repeat' (first | exact Bk.nil | apply Bk.cons rfl rfl rfl))) ?_
  intro X
  simp only [nm, newS, plc, spl, bldA, bldS, zrow, chunks, ZC.val, Nat.reduceAdd, Nat.reduceSub, BEq.rfl]
  repeat' (first
    | ((first
    | ((with_reducible apply AP.k_any); first
             | (refine AP.sm false rfl ?_ ?_; focus ((repeat' (with_reducible apply And.intro)) <;> (first | exact True.intro | exact rfl | omega | (simp; omega) | (simp; done) | assumption | exact .inl rfl | (refine .inr ?_; simp; try omega))))
      )
    
    )
      <;> (try simp only [nm, newS, plc, spl, bldA, bldS, zrow, chunks, ZC.val, Nat.reduceAdd, Nat.reduceSub, BEq.rfl]))
    | ((with_reducible apply AP.k_nil); first
        | (refine AP.nil (hQ' _ ?_); clear hQ' Q')
        | refine AP.nil ?_)
    | ((with_reducible apply CP.k_reg); refine cp_regG fun Q' hQ' => ?_)
      | (with_reducible apply CP.k_reg1; refine cp_region ?_)
      | ((with_reducible apply CP.k_cond); first
          | refine cp_condT rfl ?_
          | refine cp_condF rfl ?_
          | refine cp_cond rfl (fun hc => ?_) (fun hc => ?_))
      | (with_reducible first | refine cp_block ?_ | refine cp_exit ?_ | refine cp_ret ?_ | refine cp_skip ?_ | refine cp_seq ?_ | refine inB_hit ?_ | refine inB_n ?_ | refine inB_r ?_ | refine thenQ_n ?_ | refine thenQ_r ?_ | refine thenQ_e ?_ | refine cpn_succ ?_)
      | (refine inB_miss rfl ?_)
      | (simp only [List.append_eq, List.cons_append, List.nil_append]))
  (apply RetQ.mk (ks := []) (by first | exact .inr rfl | exact .inl rfl) (by exact ⟨rfl, rfl⟩) <;> ((repeat' (first | exact RnV.leaf rfl | exact RnC.nil | apply RnC.cons | apply RnV.ag | apply RnV.tu | exact RnV.bp rfl | exact ResL.nil | apply ResL.cons (Res1.row rfl rfl rfl rfl rfl) | apply ResL.cons (Res1.flat rfl rfl rfl rfl rfl) | apply ResL.cons (Res1.tmp (by (try simp only [List.getD_cons_succ, List.getD_cons_zero]); exact rfl)) | exact ClsC.nil | exact ClsL.nil | apply ClsC.nl | apply ClsC.leaf rfl | apply ClsC.hd rfl | apply ClsC.fn | apply ClsR.tu | apply ClsL.cons | apply ClsV.ag | exact ClsV.bp | exact ClsV.one (ClsC.leaf rfl ClsC.nil) | exact ClsV.one (ClsC.nl ClsC.nil) | exact ClsV.one (ClsC.hd rfl ClsC.nil) | apply ClsR.one | exact Out.nil | apply Out.cons rfl | exact hks_of rfl)); done))
def noneM (m : Msg) : Bool := m.client == 0 && m.id == 0 && m.body.isEmpty && m.upto == 0 && m.frm == 0 && m.entries.isEmpty && m.have_ == 0 && m.done == 0 && m.cfg.epoch == 0 && m.cfg.members.isEmpty && m.since == 0
theorem none_ac (m : Msg) : AC Try.prog 55 [.ag (eG m)] [] (fun v bs => v = B (noneM m) ∧ bs = []) := by
  refine AC.enter Try.func55 rfl rfl Try.ntmps55 (fl1_all rfl) (by (repeat' (first | exact Bk.nil | apply Bk.cons rfl rfl rfl))) ?_
  intro X
  simp only [nm, newS, plc, spl, bldA, bldS, zrow, chunks, ZC.val, Nat.reduceAdd, Nat.reduceSub, BEq.rfl]
  repeat' (first
    | ((first
    | ((with_reducible apply AP.k_any); first
             | (refine AP.sm false rfl ?_ ?_; focus ((repeat' (with_reducible apply And.intro)) <;> (first | exact True.intro | exact rfl | omega | (simp; omega) | (simp; done) | assumption | exact .inl rfl | (refine .inr ?_; simp; try omega))))
             | (refine AP.gyes rfl rfl rfl ?_; dsimp only) | (refine AP.gsplit rfl rfl rfl (fun hg => ?_) (fun hg => ?_))
      )
    
    )
      <;> (try simp only [nm, newS, plc, spl, bldA, bldS, zrow, chunks, ZC.val, Nat.reduceAdd, Nat.reduceSub, BEq.rfl]))
    | ((with_reducible apply AP.k_nil); first
        | (refine AP.nil (hQ' _ ?_); clear hQ' Q')
        | refine AP.nil ?_)
    | ((with_reducible apply CP.k_reg); refine cp_regG fun Q' hQ' => ?_)
      | (with_reducible apply CP.k_reg1; refine cp_region ?_)
      | ((with_reducible apply CP.k_cond); first
          | refine cp_condT rfl ?_
          | refine cp_condF rfl ?_
          | refine cp_cond rfl (fun hc => ?_) (fun hc => ?_))
      | (with_reducible first | refine cp_block ?_ | refine cp_exit ?_ | refine cp_ret ?_ | refine cp_skip ?_ | refine cp_seq ?_ | refine inB_hit ?_ | refine inB_n ?_ | refine inB_r ?_ | refine thenQ_n ?_ | refine thenQ_r ?_ | refine thenQ_e ?_ | refine cpn_succ ?_)
      | (refine inB_miss rfl ?_)
      | (simp only [List.append_eq, List.cons_append, List.nil_append]))
  all_goals (apply RetQ.mk2 (ks := []) (by first | exact .inr rfl | exact .inl rfl); (iterate 5 (focus ((repeat' (first | exact RnV.leaf rfl | exact RnC.nil | apply RnC.cons | apply RnV.ag | apply RnV.tu | exact RnV.bp rfl | exact ResL.nil | apply ResL.cons (Res1.row rfl rfl rfl rfl rfl) | apply ResL.cons (Res1.flat rfl rfl rfl rfl rfl) | apply ResL.cons (Res1.tmp (by (try simp only [List.getD_cons_succ, List.getD_cons_zero]); exact rfl)) | exact ClsC.nil | exact ClsL.nil | apply ClsC.nl | apply ClsC.leaf rfl | apply ClsC.hd rfl | apply ClsC.fn | apply ClsR.tu | apply ClsL.cons | apply ClsV.ag | exact ClsV.bp | exact ClsV.one (ClsC.leaf rfl ClsC.nil) | exact ClsV.one (ClsC.nl ClsC.nil) | exact ClsV.one (ClsC.hd rfl ClsC.nil) | apply ClsR.one | exact Out.nil | apply Out.cons rfl | exact hks_of rfl)); done))); (try dsimp only [resV, List.getD_cons_succ, List.getD_cons_zero]); ((refine ⟨?_, rfl⟩; simp at *; simp [noneM, *])))
/-! the table of kinds -/
abbrev kAsk : List AV := [fnv 93, fnv 94, fnv 95, fnv 96]
abbrev kHave : List AV := [fnv 98, fnv 99, fnv 100, fnv 101]
abbrev kCfg : List AV := [fnv 102, fnv 103, fnv 104, fnv 105]
abbrev kWhole : List AV := [fnv 106, fnv 107, fnv 108, fnv 109]
abbrev kEnt : List AV := [fnv 117, fnv 120, fnv 121, fnv 122]
abbrev kNo : List AV := [.sc .nilFunc, .sc .nilFunc, .sc .nilFunc, .sc .nilFunc]
theorem entries_ac : AC Try.prog 97 [] [] (fun v bs => v = .ag kEnt ∧ bs = []) := by
  refine AC.enter Try.func97 rfl rfl Try.ntmps97 (fl1_all rfl) (by (repeat' (first | exact Bk.nil | apply Bk.cons rfl rfl rfl))) ?_
  intro X
  simp only [nm, newS, plc, spl, bldA, bldS, zrow, chunks, ZC.val, Nat.reduceAdd, Nat.reduceSub, BEq.rfl]
  repeat' (first
    | ((first
    | ((with_reducible apply AP.k_any); first
             | (refine AP.sm false rfl ?_ ?_; focus ((repeat' (with_reducible apply And.intro)) <;> (first | exact True.intro | exact rfl | omega | (simp; omega) | (simp; done) | assumption | exact .inl rfl | (refine .inr ?_; simp; try omega))))
      )
    
    )
      <;> (try simp only [nm, newS, plc, spl, bldA, bldS, zrow, chunks, ZC.val, Nat.reduceAdd, Nat.reduceSub, BEq.rfl]))
    | ((with_reducible apply AP.k_nil); first
        | (refine AP.nil (hQ' _ ?_); clear hQ' Q')
        | refine AP.nil ?_)
    | ((with_reducible apply CP.k_reg); refine cp_regG fun Q' hQ' => ?_)
      | (with_reducible apply CP.k_reg1; refine cp_region ?_)
      | ((with_reducible apply CP.k_cond); first
          | refine cp_condT rfl ?_
          | refine cp_condF rfl ?_
          | refine cp_cond rfl (fun hc => ?_) (fun hc => ?_))
      | (with_reducible first | refine cp_block ?_ | refine cp_exit ?_ | refine cp_ret ?_ | refine cp_skip ?_ | refine cp_seq ?_ | refine inB_hit ?_ | refine inB_n ?_ | refine inB_r ?_ | refine thenQ_n ?_ | refine thenQ_r ?_ | refine thenQ_e ?_ | refine cpn_succ ?_)
      | (refine inB_miss rfl ?_)
      | (simp only [List.append_eq, List.cons_append, List.nil_append]))
  (apply RetQ.mk (ks := []) (by first | exact .inr rfl | exact .inl rfl) (by exact ⟨rfl, rfl⟩) <;> ((repeat' (first | exact RnV.leaf rfl | exact RnC.nil | apply RnC.cons | apply RnV.ag | apply RnV.tu | exact RnV.bp rfl | exact ResL.nil | apply ResL.cons (Res1.row rfl rfl rfl rfl rfl) | apply ResL.cons (Res1.flat rfl rfl rfl rfl rfl) | apply ResL.cons (Res1.tmp (by (try simp only [List.getD_cons_succ, List.getD_cons_zero]); exact rfl)) | exact ClsC.nil | exact ClsL.nil | apply ClsC.nl | apply ClsC.leaf rfl | apply ClsC.hd rfl | apply ClsC.fn | apply ClsR.tu | apply ClsL.cons | apply ClsV.ag | exact ClsV.bp | exact ClsV.one (ClsC.leaf rfl ClsC.nil) | exact ClsV.one (ClsC.nl ClsC.nil) | exact ClsV.one (ClsC.hd rfl ClsC.nil) | apply ClsR.one | exact Out.nil | apply Out.cons rfl | exact hks_of rfl)); done))
theorem kinds_ac : AC Try.prog 77 [] [] (fun v bs => v = .ag (kNo ++ (kAsk ++ (kEnt ++ (kHave ++ (kCfg ++ (kWhole ++ kAsk)))))) ∧ bs = []) := by
  refine AC.enter Try.func77 rfl rfl Try.ntmps77 (fl1_all rfl) (by (repeat' (first | exact Bk.nil | apply Bk.cons rfl rfl rfl))) ?_
  intro X
  simp only [nm, newS, plc, spl, bldA, bldS, zrow, chunks, ZC.val, Nat.reduceAdd, Nat.reduceSub, BEq.rfl]
  repeat' (first
    | ((first
    | ((with_reducible apply AP.k_any); first
             | (refine AP.sm false rfl ?_ ?_; focus ((repeat' (with_reducible apply And.intro)) <;> (first | exact True.intro | exact rfl | omega | (simp; omega) | (simp; done) | assumption | exact .inl rfl | (refine .inr ?_; simp; try omega))))
      )
    | ((with_reducible apply AP.k_any); refine ap_callX rfl rfl (fn := 97) rfl (entries_ac) (by (repeat' (first | exact PasC.nil | apply PasC.nil | apply PasC.cons | apply PasV.leaf rfl | apply PasV.nl | apply PasV.bp rfl | apply PasV.lend rfl rfl rfl | apply PasV.lend rfl rfl (ro_B _) | apply PasV.lend rfl rfl (ro_M _) | apply PasV.lend rfl rfl (ro_E _ _) | apply PasV.lend rfl rfl (ro_I _) | apply PasV.mv rfl | apply PasV.ag | apply PasV.fn | exact PasV.fs | apply PasV.any))) rfl rfl ?_)
    | ((with_reducible apply DW.k_any); first
                | (refine DW.known rfl ?_; first
                  | ((with_reducible first | apply DW.rd 0 | apply DW.rdN 0); (iterate 2 (focus (simp only [ft, nm, Nat.reduceAdd, Nat.reduceBEq, List.getElem?_cons_zero, List.getElem?_cons_succ]; exact rfl))); (focus (intro X V; simp only [ft, nm, Nat.reduceAdd, Nat.reduceBEq]; ((with_reducible apply AP.k_any); first | (refine AP.sm false rfl ?_ ?_; focus ((repeat' (with_reducible apply And.intro)) <;> (first | exact True.intro | exact rfl | omega | (simp; omega) | (simp; done) | assumption | exact .inl rfl | (refine .inr ?_; simp; try omega)))) | (refine AP.el rfl ?_ (by (first | (refine ⟨?_, ?_⟩; assumption; rfl) | exact ⟨mapAt (by (first | omega | (simp; omega) | (simp; done) | assumption)), rfl⟩ | exact ⟨rfl, rfl⟩)) ?_; focus ((repeat' (with_reducible apply And.intro)) <;> (first | exact True.intro | exact rfl | omega | (simp; omega) | (simp; done) | assumption | exact .inl rfl | (refine .inr ?_; simp; try omega)))) | refine ap_storeE rfl rfl rfl rfl rfl rfl rfl rfl (by (first | (refine ⟨?_, ?_⟩; assumption; rfl) | exact ⟨mapAt (by (first | omega | (simp; omega) | (simp; done) | assumption)), rfl⟩ | exact ⟨rfl, rfl⟩)) (by exact rfl) ?_); (try simp only [nm, newS, plc, spl, bldA, bldS, zrow, chunks, ZC.val, Nat.reduceAdd, Nat.reduceSub, BEq.rfl]); refine AP.nil ?_; first | exact ⟨trivial, rfl⟩ | exact ⟨rfl, rfl⟩)))
                  | ((with_reducible first | apply DW.st 1 | apply DW.stN 1); (iterate 2 (focus (simp only [ft, nm, Nat.reduceAdd, Nat.reduceBEq, List.getElem?_cons_zero, List.getElem?_cons_succ]; exact rfl))); (focus (intro X V; simp only [ft, nm, Nat.reduceAdd, Nat.reduceBEq]; ((with_reducible apply AP.k_any); first | (refine AP.sm false rfl ?_ ?_; focus ((repeat' (with_reducible apply And.intro)) <;> (first | exact True.intro | exact rfl | omega | (simp; omega) | (simp; done) | assumption | exact .inl rfl | (refine .inr ?_; simp; try omega)))) | (refine AP.el rfl ?_ (by (first | (refine ⟨?_, ?_⟩; assumption; rfl) | exact ⟨mapAt (by (first | omega | (simp; omega) | (simp; done) | assumption)), rfl⟩ | exact ⟨rfl, rfl⟩)) ?_; focus ((repeat' (with_reducible apply And.intro)) <;> (first | exact True.intro | exact rfl | omega | (simp; omega) | (simp; done) | assumption | exact .inl rfl | (refine .inr ?_; simp; try omega)))) | refine ap_storeE rfl rfl rfl rfl rfl rfl rfl rfl (by (first | (refine ⟨?_, ?_⟩; assumption; rfl) | exact ⟨mapAt (by (first | omega | (simp; omega) | (simp; done) | assumption)), rfl⟩ | exact ⟨rfl, rfl⟩)) (by exact rfl) ?_); (try simp only [nm, newS, plc, spl, bldA, bldS, zrow, chunks, ZC.val, Nat.reduceAdd, Nat.reduceSub, BEq.rfl]); refine AP.nil ?_; (first | refine ⟨trivial, rfl, ?_⟩ | refine ⟨rfl, rfl, ?_⟩); (repeat' (first | exact Mg.nil | apply Mg.keep rfl | apply Mg.take rfl)); done)); (focus (refine Exists.intro (fun _ => 0) ?_; apply Exists.intro; (repeat' (first | exact Mg.nil | apply Mg.keep rfl | apply Mg.take rfl)); done)))
                  | ((with_reducible first | apply DW.st 2 | apply DW.stN 2); (iterate 2 (focus (simp only [ft, nm, Nat.reduceAdd, Nat.reduceBEq, List.getElem?_cons_zero, List.getElem?_cons_succ]; exact rfl))); (focus (intro X V; simp only [ft, nm, Nat.reduceAdd, Nat.reduceBEq]; (try (refine AP.gyes rfl rfl rfl ?_; dsimp only)); (first | ((with_reducible apply AP.k_any); refine ap_callX rfl rfl (fn := 97) rfl (entries_ac) (by (repeat' (first | exact PasC.nil | apply PasC.nil | apply PasC.cons | apply PasV.leaf rfl | apply PasV.nl | apply PasV.bp rfl | apply PasV.lend rfl rfl rfl | apply PasV.lend rfl rfl (ro_B _) | apply PasV.lend rfl rfl (ro_M _) | apply PasV.lend rfl rfl (ro_E _ _) | apply PasV.lend rfl rfl (ro_I _) | apply PasV.mv rfl | apply PasV.ag | apply PasV.fn | exact PasV.fs | apply PasV.any))) rfl rfl ?_) | fail); (try simp only [nm, newS, plc, spl, bldA, bldS, zrow, chunks, ZC.val, Nat.reduceAdd, Nat.reduceSub, BEq.rfl]); refine AP.nil ?_; (first | refine ⟨trivial, rfl, ?_⟩ | refine ⟨rfl, rfl, ?_⟩); (repeat' (first | exact Mg.nil | apply Mg.keep rfl | apply Mg.take rfl)); done)); (focus (refine Exists.intro (fun _ => 0) ?_; apply Exists.intro; (repeat' (first | exact Mg.nil | apply Mg.keep rfl | apply Mg.take rfl)); done))))
                | refine DW.split rfl rfl rfl (fun hg => ?_) (fun hg => ?_)
    )
    )
      <;> (try simp only [nm, newS, plc, spl, bldA, bldS, zrow, chunks, ZC.val, Nat.reduceAdd, Nat.reduceSub, BEq.rfl]))
    | ((with_reducible apply AP.k_nil); first
        | (refine AP.nil (hQ' _ ?_); clear hQ' Q')
        | refine AP.nil ?_)
    | ((with_reducible apply CP.k_drw); refine cp_drwW (by kernel_rfl) (by kernel_rfl) fun Q' hQ' => ?_)
    | ((with_reducible apply CP.k_drw1); refine cp_drawW (by kernel_rfl) (by kernel_rfl) ?_)
    | ((with_reducible apply DW.k_nil); refine DW.nil (by kernel_rfl) ?_; first | (refine hQ' _ ?_; clear hQ' Q') | skip)
    | ((with_reducible apply CP.k_reg); refine cp_regG fun Q' hQ' => ?_)
      | (with_reducible apply CP.k_reg1; refine cp_region ?_)
      | ((with_reducible apply CP.k_cond); first
          | refine cp_condT rfl ?_
          | refine cp_condF rfl ?_
          | refine cp_cond rfl (fun hc => ?_) (fun hc => ?_))
      | (with_reducible first | refine cp_block ?_ | refine cp_exit ?_ | refine cp_ret ?_ | refine cp_skip ?_ | refine cp_seq ?_ | refine inB_hit ?_ | refine inB_n ?_ | refine inB_r ?_ | refine thenQ_n ?_ | refine thenQ_r ?_ | refine thenQ_e ?_ | refine cpn_succ ?_)
      | (refine inB_miss rfl ?_)
      | (simp only [List.append_eq, List.cons_append, List.nil_append]))
  (apply RetQ.mk (ks := []) (by first | exact .inr rfl | exact .inl rfl) (by exact ⟨rfl, rfl⟩) <;> ((repeat' (first | exact RnV.leaf rfl | exact RnC.nil | apply RnC.cons | apply RnV.ag | apply RnV.tu | exact RnV.bp rfl | exact ResL.nil | apply ResL.cons (Res1.row rfl rfl rfl rfl rfl) | apply ResL.cons (Res1.flat rfl rfl rfl rfl rfl) | apply ResL.cons (Res1.tmp (by (try simp only [List.getD_cons_succ, List.getD_cons_zero]); exact rfl)) | exact ClsC.nil | exact ClsL.nil | apply ClsC.nl | apply ClsC.leaf rfl | apply ClsC.hd rfl | apply ClsC.fn | apply ClsR.tu | apply ClsL.cons | apply ClsV.ag | exact ClsV.bp | exact ClsV.one (ClsC.leaf rfl ClsC.nil) | exact ClsV.one (ClsC.nl ClsC.nil) | exact ClsV.one (ClsC.hd rfl ClsC.nil) | apply ClsR.one | exact Out.nil | apply Out.cons rfl | exact hks_of rfl)); done))
end Go.Proofs.Ytpdegeknhapgmaa
