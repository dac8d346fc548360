/-
  For every list of records, every book and both answers (of bulk at most 1048576) the law OverDrops returns true, and each argument reads behind the call as it did. No other condition.
-/
import Derived.Test.YtkdbedbefojieaaC8
import Derived.Test.YtkdbedbefojieaaC10
import Derived.Test.YtkdbedbefojieaaBrD
import Derived.Deep.CondSized
namespace Go.Proofs.Ytkdbedbefojieaa
set_option linter.unusedVariables false
set_option linter.unusedSimpArgs false
set_option maxHeartbeats 8000000
open Go.RowKit Go.ChangeShapes Go.WideShapes Go.ChangeAt Go.Deep
set_option maxRecDepth 100000
theorem lO_ro (x : Life) : (lO x).ro = lR x := by simp [AV.ro, roC, ro_M, ro_E]
def eZ : Entry := ⟨0, 0, 0, 0, []⟩
theorem live_ro (x : Life) (r : Record) (y : Life) (e : lNext x r = y) (hm : x.book.cfg.members.length ≤ 100000000) (hl : x.log.length ≤ 100000000) (hb : ∀ e ∈ x.log, e.body.length ≤ 100000000) (ha : r.book.cfg.members.length ≤ 100000000) (hrb : r.entry.body.length ≤ 100000000) :
    AC Try.prog 22 [lR x, .ag (eR r)] [] (fun v bs' => v = lR y ∧ bs' = []) := e ▸ (live_ac x r hm hl hb ha hrb).ro (lO_ro _)
theorem drops_ac (l : List Record) (b : Book) (drop : Bool) (hl : l.length ≤ 100000000) (hb : ∀ r ∈ l, r.entry.body.length ≤ 100000000) (hbb : b.cfg.members.length ≤ 100000000) :
    AC Try.prog 8 [rs l, .ag (eK none b), B drop] [] (fun v bs' => v = B true ∧ bs' = []) := by
  cases hga : gA 0 l with
  | true =>
    have hgr : AC Try.prog 17 [rs l] [] (fun v bs' => v = B true ∧ bs' = []) := by have := greatAll_ac l hl hb; rwa [hga] at this
    refine AC.enter Try.func8 rfl rfl Try.ntmps8 (fl1_all rfl) (by (repeat' (first | exact Bk.nil | apply Bk.cons rfl rfl rfl))) ?_
    intro X
    simp only [nm, newS, spl, bldA, bldS, zrow, chunks, ZC.val, Nat.reduceAdd, Nat.reduceSub, BEq.rfl]
    repeat' (first
      | ((first
      | ((with_reducible apply AP.k_any); first
               | (refine AP.s1 rfl ?_ ?_; focus ((repeat' (with_reducible apply And.intro)) <;> (first | exact True.intro | exact rfl | omega | (simp; omega) | (simp; done) | assumption)))
               | (refine AP.s2 rfl ?_ ?_; focus ((repeat' (with_reducible apply And.intro)) <;> (first | exact True.intro | exact rfl | omega | (simp; omega) | (simp; done) | assumption)))
               | (refine AP.gyes rfl rfl rfl ?_; dsimp only) | refine AP.gno rfl rfl rfl rfl ?_ | refine AP.gund rfl rfl rfl ?_ | (refine AP.gsplit rfl rfl rfl (fun hg => ?_) (fun hg => ?_))
               | refine ap_box rfl rfl rfl rfl ?_
               | refine ap_alloc rfl rfl rfl rfl ?_
               | refine ap_store rfl rfl rfl rfl rfl rfl rfl rfl rfl ?_
        )
      | ((with_reducible apply AP.k_any); refine ap_callX rfl rfl (fn := 24) rfl (awake_ac) (by (repeat' (first | exact PasC.nil | apply PasC.nil | apply PasC.cons | apply PasV.leaf rfl | apply PasV.nl | apply PasV.bp rfl | apply PasV.lend rfl rfl rfl | apply PasV.lend rfl rfl (ro_B _) | apply PasV.lend rfl rfl (ro_M _) | apply PasV.lend rfl rfl (ro_E _ _) | apply PasV.mv rfl | apply PasV.ag | apply PasV.fn | exact PasV.fs | apply PasV.any))) rfl rfl ?_)
        | ((with_reducible apply AP.k_any); refine ap_callX rfl rfl (fn := 17) rfl (hgr) (by (repeat' (first | exact PasC.nil | apply PasC.nil | apply PasC.cons | apply PasV.leaf rfl | apply PasV.nl | apply PasV.bp rfl | apply PasV.lend rfl rfl rfl | apply PasV.lend rfl rfl (ro_B _) | apply PasV.lend rfl rfl (ro_M _) | apply PasV.lend rfl rfl (ro_E _ _) | apply PasV.mv rfl | apply PasV.ag | apply PasV.fn | exact PasV.fs | apply PasV.any))) rfl rfl ?_)
      )
        <;> (try simp only [nm, newS, spl, bldA, bldS, zrow, chunks, ZC.val, Nat.reduceAdd, Nat.reduceSub, BEq.rfl]))
      | ((with_reducible apply AP.k_nil); first
          | (refine AP.nil (hQ' _ ?_); clear hQ' Q')
          | refine AP.nil ?_)
      | ((with_reducible apply CP.k_reg); refine cp_regG fun Q' hQ' => ?_)
        | (with_reducible apply CP.k_reg1; refine cp_region ?_)
        | ((with_reducible apply CP.k_cond); first
            | refine cp_condT rfl ?_
            | refine cp_condF rfl ?_
            | refine cp_cond rfl (fun hc => ?_) (fun hc => ?_))
        | (with_reducible first | refine cp_block ?_ | refine cp_exit ?_ | refine cp_ret ?_ | refine cp_skip ?_ | refine cp_seq ?_ | refine inB_hit ?_ | refine inB_n ?_ | refine inB_r ?_ | refine thenQ_n ?_ | refine thenQ_r ?_ | refine thenQ_e ?_)
        | (refine inB_miss rfl ?_))
    apply RetQ.mk (ks := []) (by first | exact .inr rfl | exact .inl rfl)
    case hl => (repeat' (first | exact ResL.nil | apply ResL.cons (Res1.row rfl rfl rfl rfl rfl) | apply ResL.cons (Res1.flat rfl rfl rfl rfl rfl) | apply ResL.cons (Res1.tmp (by (try simp only [List.getD_cons_succ, List.getD_cons_zero]); exact rfl))))
    case hc => (repeat' (first | exact ClsC.nil | exact ClsL.nil | apply ClsC.nl | apply ClsC.leaf rfl | apply ClsC.hd rfl | apply ClsC.fn | apply ClsR.tu | apply ClsL.cons | apply ClsV.ag | exact ClsV.bp | exact ClsV.one (ClsC.leaf rfl ClsC.nil) | exact ClsV.one (ClsC.nl ClsC.nil) | exact ClsV.one (ClsC.hd rfl ClsC.nil) | apply ClsR.one))
    case hr => (repeat' (first | exact RnV.leaf rfl | exact RnC.nil | apply RnC.cons | apply RnV.ag | apply RnV.tu | exact RnV.bp rfl))
    case ho => (repeat' (first | exact Out.nil | apply Out.cons rfl | exact ClsC.nil | apply ClsC.nl | apply ClsC.leaf rfl | apply ClsC.hd rfl | apply ClsC.fn | apply ClsC.fz rfl (ro_B _) | apply ClsC.fz rfl (ro_M _) | apply ClsC.fz rfl (ro_E _ _) | apply ClsC.fz rfl rfl))
    case hk => exact hks_of rfl
    case hq => (try dsimp only [resV, List.getD_cons_succ, List.getD_cons_zero]); exact ⟨rfl, rfl⟩
  | false =>
    have hgr : AC Try.prog 17 [rs l] [] (fun v bs' => v = B false ∧ bs' = []) := by have := greatAll_ac l hl hb; rwa [hga] at this
    have hs := gA_spec hga (by omega)
    have hok := lLives_ok (l := l) (M := 50) (N := 4000) hs.2
    have hlen := lLives_len l
    have h1 : ∀ r ∈ l, r.book.cfg.members.length ≤ 100000000 ∧ r.entry.body.length ≤ 100000000 := fun r hr => ⟨Nat.le_trans (hs.2 r hr).1 (by omega), hb r hr⟩
    have h2 : (lLives l).log.length ≤ 100000000 := by omega
    have h3 : ∀ e ∈ (lLives l).log, e.body.length ≤ 100000000 := fun e he => Nat.le_trans (hok.2 e he) (by omega)
    have h4 : (lLives l).book.cfg.members.length ≤ 100000000 := by omega
    have hlv := (lives_ac l hl h1).ro (lO_ro _)
    have hsb := sameBook_ac b b (by omega)
    rw [show eqK b b = true from eqK_iff.2 rfl] at hsb
    have hw : IntKind.i64.wrap (((lLives l).log.length : Int) + 1) = ((lLives l).log.length : Int) + 1 := wrap_i64 (by omega) (by omega)
    cases drop with
    | true =>
      have ha := live_ro (lLives l) ⟨1, b, true, eZ⟩ ⟨b, (lLives l).boot, []⟩ (by simp [lNext, lBook]) h4 h2 h3 hbb (by simp [eZ])
      have hp : IntKind.i64.wrap (0 + 1) = 1 := wrap_i64 (by omega) (by omega)
      have hcl := live_ro ⟨b, (lLives l).boot, []⟩ ⟨2, ⟨⟨0, []⟩, 0, false, 0⟩, false, ⟨IntKind.i64.wrap (0 + 1), 0, 0, 1, []⟩⟩ ⟨b, (lLives l).boot, [⟨IntKind.i64.wrap (0 + 1), 0, 0, 1, []⟩]⟩ (by simp only [hp]; simp [lNext, lEntry]) hbb (by simp) (by simp) (by simp) (by simp)
      refine AC.enter Try.func8 rfl rfl Try.ntmps8 (fl1_all rfl) (by (repeat' (first | exact Bk.nil | apply Bk.cons rfl rfl rfl))) ?_
      intro X
      simp only [nm, newS, spl, bldA, bldS, zrow, chunks, ZC.val, Nat.reduceAdd, Nat.reduceSub, BEq.rfl]
      repeat' (first
        | ((first
        | ((with_reducible apply AP.k_any); first
                 | (refine AP.s1 rfl ?_ ?_; focus ((repeat' (with_reducible apply And.intro)) <;> (first | exact True.intro | exact rfl | omega | (simp; omega) | (simp; done) | assumption)))
                 | (refine AP.s2 rfl ?_ ?_; focus ((repeat' (with_reducible apply And.intro)) <;> (first | exact True.intro | exact rfl | omega | (simp; omega) | (simp; done) | assumption)))
                 | (refine AP.gyes rfl rfl rfl ?_; dsimp only) | refine AP.gno rfl rfl rfl rfl ?_ | refine AP.gund rfl rfl rfl ?_ | (refine AP.gsplit rfl rfl rfl (fun hg => ?_) (fun hg => ?_))
                 | refine ap_box rfl rfl rfl rfl ?_
                 | refine ap_alloc rfl rfl rfl rfl ?_
                 | refine ap_store rfl rfl rfl rfl rfl rfl rfl rfl rfl ?_
          )
        | ((with_reducible apply AP.k_any); refine ap_callX rfl rfl (fn := 24) rfl (awake_ac) (by (repeat' (first | exact PasC.nil | apply PasC.nil | apply PasC.cons | apply PasV.leaf rfl | apply PasV.nl | apply PasV.bp rfl | apply PasV.lend rfl rfl rfl | apply PasV.lend rfl rfl (ro_B _) | apply PasV.lend rfl rfl (ro_M _) | apply PasV.lend rfl rfl (ro_E _ _) | apply PasV.mv rfl | apply PasV.ag | apply PasV.fn | exact PasV.fs | apply PasV.any))) rfl rfl ?_)
            | ((with_reducible apply AP.k_any); refine ap_callX rfl rfl (fn := 17) rfl (hgr) (by (repeat' (first | exact PasC.nil | apply PasC.nil | apply PasC.cons | apply PasV.leaf rfl | apply PasV.nl | apply PasV.bp rfl | apply PasV.lend rfl rfl rfl | apply PasV.lend rfl rfl (ro_B _) | apply PasV.lend rfl rfl (ro_M _) | apply PasV.lend rfl rfl (ro_E _ _) | apply PasV.mv rfl | apply PasV.ag | apply PasV.fn | exact PasV.fs | apply PasV.any))) rfl rfl ?_)
            | ((with_reducible apply AP.k_any); refine ap_callX rfl rfl (fn := 20) rfl (hlv) (by (repeat' (first | exact PasC.nil | apply PasC.nil | apply PasC.cons | apply PasV.leaf rfl | apply PasV.nl | apply PasV.bp rfl | apply PasV.lend rfl rfl rfl | apply PasV.lend rfl rfl (ro_B _) | apply PasV.lend rfl rfl (ro_M _) | apply PasV.lend rfl rfl (ro_E _ _) | apply PasV.mv rfl | apply PasV.ag | apply PasV.fn | exact PasV.fs | apply PasV.any))) rfl rfl ?_)
            | ((with_reducible apply AP.k_any); refine ap_callX rfl rfl (fn := 22) rfl (ha) (by (repeat' (first | exact PasC.nil | apply PasC.nil | apply PasC.cons | apply PasV.leaf rfl | apply PasV.nl | apply PasV.bp rfl | apply PasV.lend rfl rfl rfl | apply PasV.lend rfl rfl (ro_B _) | apply PasV.lend rfl rfl (ro_M _) | apply PasV.lend rfl rfl (ro_E _ _) | apply PasV.mv rfl | apply PasV.ag | apply PasV.fn | exact PasV.fs | apply PasV.any))) rfl rfl ?_)
            | ((with_reducible apply AP.k_any); refine ap_callX rfl rfl (fn := 22) rfl (hcl) (by (repeat' (first | exact PasC.nil | apply PasC.nil | apply PasC.cons | apply PasV.leaf rfl | apply PasV.nl | apply PasV.bp rfl | apply PasV.lend rfl rfl rfl | apply PasV.lend rfl rfl (ro_B _) | apply PasV.lend rfl rfl (ro_M _) | apply PasV.lend rfl rfl (ro_E _ _) | apply PasV.mv rfl | apply PasV.ag | apply PasV.fn | exact PasV.fs | apply PasV.any))) rfl rfl ?_)
            | ((with_reducible apply AP.k_any); refine ap_callX rfl rfl (fn := 14) rfl (hsb) (by (repeat' (first | exact PasC.nil | apply PasC.nil | apply PasC.cons | apply PasV.leaf rfl | apply PasV.nl | apply PasV.bp rfl | apply PasV.lend rfl rfl rfl | apply PasV.lend rfl rfl (ro_B _) | apply PasV.lend rfl rfl (ro_M _) | apply PasV.lend rfl rfl (ro_E _ _) | apply PasV.mv rfl | apply PasV.ag | apply PasV.fn | exact PasV.fs | apply PasV.any))) rfl rfl ?_)
        )
          <;> (try simp only [nm, newS, spl, bldA, bldS, zrow, chunks, ZC.val, Nat.reduceAdd, Nat.reduceSub, BEq.rfl]))
        | ((with_reducible apply AP.k_nil); first
            | (refine AP.nil (hQ' _ ?_); clear hQ' Q')
            | refine AP.nil ?_)
        | ((with_reducible apply CP.k_reg); refine cp_regG fun Q' hQ' => ?_)
          | (with_reducible apply CP.k_reg1; refine cp_region ?_)
          | ((with_reducible apply CP.k_cond); first
              | refine cp_condT rfl ?_
              | refine cp_condF rfl ?_
              | refine cp_cond rfl (fun hc => ?_) (fun hc => ?_))
          | (with_reducible first | refine cp_block ?_ | refine cp_exit ?_ | refine cp_ret ?_ | refine cp_skip ?_ | refine cp_seq ?_ | refine inB_hit ?_ | refine inB_n ?_ | refine inB_r ?_ | refine thenQ_n ?_ | refine thenQ_r ?_ | refine thenQ_e ?_)
          | (refine inB_miss rfl ?_))
      all_goals first
        | apply RetQ.mk (ks := []) (by first | exact .inr rfl | exact .inl rfl)
          case hl => (repeat' (first | exact ResL.nil | apply ResL.cons (Res1.row rfl rfl rfl rfl rfl) | apply ResL.cons (Res1.flat rfl rfl rfl rfl rfl) | apply ResL.cons (Res1.tmp (by (try simp only [List.getD_cons_succ, List.getD_cons_zero]); exact rfl))))
          case hc => (repeat' (first | exact ClsC.nil | exact ClsL.nil | apply ClsC.nl | apply ClsC.leaf rfl | apply ClsC.hd rfl | apply ClsC.fn | apply ClsR.tu | apply ClsL.cons | apply ClsV.ag | exact ClsV.bp | exact ClsV.one (ClsC.leaf rfl ClsC.nil) | exact ClsV.one (ClsC.nl ClsC.nil) | exact ClsV.one (ClsC.hd rfl ClsC.nil) | apply ClsR.one))
          case hr => (repeat' (first | exact RnV.leaf rfl | exact RnC.nil | apply RnC.cons | apply RnV.ag | apply RnV.tu | exact RnV.bp rfl))
          case ho => (repeat' (first | exact Out.nil | apply Out.cons rfl | exact ClsC.nil | apply ClsC.nl | apply ClsC.leaf rfl | apply ClsC.hd rfl | apply ClsC.fn | apply ClsC.fz rfl (ro_B _) | apply ClsC.fz rfl (ro_M _) | apply ClsC.fz rfl (ro_E _ _) | apply ClsC.fz rfl rfl))
          case hk => exact hks_of rfl
          case hq => (try dsimp only [resV, List.getD_cons_succ, List.getD_cons_zero]); exact ⟨rfl, rfl⟩
        | (exfalso; simp at *; done)
        | (simp only [hw, List.length_map, List.length_append, List.length_cons, List.length_nil] at *; exfalso; simp at *; done)
        | apply RetQ.mk (ks := []) (by first | exact .inr rfl | exact .inl rfl)
          case hl => (repeat' (first | exact ResL.nil | apply ResL.cons (Res1.row rfl rfl rfl rfl rfl) | apply ResL.cons (Res1.flat rfl rfl rfl rfl rfl) | apply ResL.cons (Res1.tmp (by (try simp only [List.getD_cons_succ, List.getD_cons_zero]); exact rfl))))
          case hc => (repeat' (first | exact ClsC.nil | exact ClsL.nil | apply ClsC.nl | apply ClsC.leaf rfl | apply ClsC.hd rfl | apply ClsC.fn | apply ClsR.tu | apply ClsL.cons | apply ClsV.ag | exact ClsV.bp | exact ClsV.one (ClsC.leaf rfl ClsC.nil) | exact ClsV.one (ClsC.nl ClsC.nil) | exact ClsV.one (ClsC.hd rfl ClsC.nil) | apply ClsR.one))
          case hr => (repeat' (first | exact RnV.leaf rfl | exact RnC.nil | apply RnC.cons | apply RnV.ag | apply RnV.tu | exact RnV.bp rfl))
          case ho => (repeat' (first | exact Out.nil | apply Out.cons rfl | exact ClsC.nil | apply ClsC.nl | apply ClsC.leaf rfl | apply ClsC.hd rfl | apply ClsC.fn | apply ClsC.fz rfl (ro_B _) | apply ClsC.fz rfl (ro_M _) | apply ClsC.fz rfl (ro_E _ _) | apply ClsC.fz rfl rfl))
          case hk => exact hks_of rfl
          case hq => (try dsimp only [resV, List.getD_cons_succ, List.getD_cons_zero]); exact ⟨by simp [hw], rfl⟩
    | false =>
      have ha := live_ro (lLives l) ⟨1, b, false, eZ⟩ ⟨b, (lLives l).boot, (lLives l).log⟩ (by simp [lNext, lBook]) h4 h2 h3 hbb (by simp [eZ])
      have hcl := live_ro ⟨b, (lLives l).boot, (lLives l).log⟩ ⟨2, ⟨⟨0, []⟩, 0, false, 0⟩, false, ⟨((lLives l).log.length : Int) + 1, 0, 0, 1, []⟩⟩ ⟨b, (lLives l).boot, (lLives l).log ++ [⟨((lLives l).log.length : Int) + 1, 0, 0, 1, []⟩]⟩ (by simp [lNext, lEntry]) hbb h2 h3 (by simp) (by simp)
      rw [← hw] at hcl
      refine AC.enter Try.func8 rfl rfl Try.ntmps8 (fl1_all rfl) (by (repeat' (first | exact Bk.nil | apply Bk.cons rfl rfl rfl))) ?_
      intro X
      simp only [nm, newS, spl, bldA, bldS, zrow, chunks, ZC.val, Nat.reduceAdd, Nat.reduceSub, BEq.rfl]
      repeat' (first
        | ((first
        | ((with_reducible apply AP.k_any); first
                 | (refine AP.s1 rfl ?_ ?_; focus ((repeat' (with_reducible apply And.intro)) <;> (first | exact True.intro | exact rfl | omega | (simp; omega) | (simp; done) | assumption)))
                 | (refine AP.s2 rfl ?_ ?_; focus ((repeat' (with_reducible apply And.intro)) <;> (first | exact True.intro | exact rfl | omega | (simp; omega) | (simp; done) | assumption)))
                 | (refine AP.gyes rfl rfl rfl ?_; dsimp only) | refine AP.gno rfl rfl rfl rfl ?_ | refine AP.gund rfl rfl rfl ?_ | (refine AP.gsplit rfl rfl rfl (fun hg => ?_) (fun hg => ?_))
                 | refine ap_box rfl rfl rfl rfl ?_
                 | refine ap_alloc rfl rfl rfl rfl ?_
                 | refine ap_store rfl rfl rfl rfl rfl rfl rfl rfl rfl ?_
          )
        | ((with_reducible apply AP.k_any); refine ap_callX rfl rfl (fn := 24) rfl (awake_ac) (by (repeat' (first | exact PasC.nil | apply PasC.nil | apply PasC.cons | apply PasV.leaf rfl | apply PasV.nl | apply PasV.bp rfl | apply PasV.lend rfl rfl rfl | apply PasV.lend rfl rfl (ro_B _) | apply PasV.lend rfl rfl (ro_M _) | apply PasV.lend rfl rfl (ro_E _ _) | apply PasV.mv rfl | apply PasV.ag | apply PasV.fn | exact PasV.fs | apply PasV.any))) rfl rfl ?_)
            | ((with_reducible apply AP.k_any); refine ap_callX rfl rfl (fn := 17) rfl (hgr) (by (repeat' (first | exact PasC.nil | apply PasC.nil | apply PasC.cons | apply PasV.leaf rfl | apply PasV.nl | apply PasV.bp rfl | apply PasV.lend rfl rfl rfl | apply PasV.lend rfl rfl (ro_B _) | apply PasV.lend rfl rfl (ro_M _) | apply PasV.lend rfl rfl (ro_E _ _) | apply PasV.mv rfl | apply PasV.ag | apply PasV.fn | exact PasV.fs | apply PasV.any))) rfl rfl ?_)
            | ((with_reducible apply AP.k_any); refine ap_callX rfl rfl (fn := 20) rfl (hlv) (by (repeat' (first | exact PasC.nil | apply PasC.nil | apply PasC.cons | apply PasV.leaf rfl | apply PasV.nl | apply PasV.bp rfl | apply PasV.lend rfl rfl rfl | apply PasV.lend rfl rfl (ro_B _) | apply PasV.lend rfl rfl (ro_M _) | apply PasV.lend rfl rfl (ro_E _ _) | apply PasV.mv rfl | apply PasV.ag | apply PasV.fn | exact PasV.fs | apply PasV.any))) rfl rfl ?_)
            | ((with_reducible apply AP.k_any); refine ap_callX rfl rfl (fn := 22) rfl (ha) (by (repeat' (first | exact PasC.nil | apply PasC.nil | apply PasC.cons | apply PasV.leaf rfl | apply PasV.nl | apply PasV.bp rfl | apply PasV.lend rfl rfl rfl | apply PasV.lend rfl rfl (ro_B _) | apply PasV.lend rfl rfl (ro_M _) | apply PasV.lend rfl rfl (ro_E _ _) | apply PasV.mv rfl | apply PasV.ag | apply PasV.fn | exact PasV.fs | apply PasV.any))) rfl rfl ?_)
            | ((with_reducible apply AP.k_any); refine ap_callX rfl rfl (fn := 22) rfl (hcl) (by (repeat' (first | exact PasC.nil | apply PasC.nil | apply PasC.cons | apply PasV.leaf rfl | apply PasV.nl | apply PasV.bp rfl | apply PasV.lend rfl rfl rfl | apply PasV.lend rfl rfl (ro_B _) | apply PasV.lend rfl rfl (ro_M _) | apply PasV.lend rfl rfl (ro_E _ _) | apply PasV.mv rfl | apply PasV.ag | apply PasV.fn | exact PasV.fs | apply PasV.any))) rfl rfl ?_)
            | ((with_reducible apply AP.k_any); refine ap_callX rfl rfl (fn := 14) rfl (hsb) (by (repeat' (first | exact PasC.nil | apply PasC.nil | apply PasC.cons | apply PasV.leaf rfl | apply PasV.nl | apply PasV.bp rfl | apply PasV.lend rfl rfl rfl | apply PasV.lend rfl rfl (ro_B _) | apply PasV.lend rfl rfl (ro_M _) | apply PasV.lend rfl rfl (ro_E _ _) | apply PasV.mv rfl | apply PasV.ag | apply PasV.fn | exact PasV.fs | apply PasV.any))) rfl rfl ?_)
        )
          <;> (try simp only [nm, newS, spl, bldA, bldS, zrow, chunks, ZC.val, Nat.reduceAdd, Nat.reduceSub, BEq.rfl]))
        | ((with_reducible apply AP.k_nil); first
            | (refine AP.nil (hQ' _ ?_); clear hQ' Q')
            | refine AP.nil ?_)
        | ((with_reducible apply CP.k_reg); refine cp_regG fun Q' hQ' => ?_)
          | (with_reducible apply CP.k_reg1; refine cp_region ?_)
          | ((with_reducible apply CP.k_cond); first
              | refine cp_condT rfl ?_
              | refine cp_condF rfl ?_
              | refine cp_cond rfl (fun hc => ?_) (fun hc => ?_))
          | (with_reducible first | refine cp_block ?_ | refine cp_exit ?_ | refine cp_ret ?_ | refine cp_skip ?_ | refine cp_seq ?_ | refine inB_hit ?_ | refine inB_n ?_ | refine inB_r ?_ | refine thenQ_n ?_ | refine thenQ_r ?_ | refine thenQ_e ?_)
          | (refine inB_miss rfl ?_))
      all_goals first
        | apply RetQ.mk (ks := []) (by first | exact .inr rfl | exact .inl rfl)
          case hl => (repeat' (first | exact ResL.nil | apply ResL.cons (Res1.row rfl rfl rfl rfl rfl) | apply ResL.cons (Res1.flat rfl rfl rfl rfl rfl) | apply ResL.cons (Res1.tmp (by (try simp only [List.getD_cons_succ, List.getD_cons_zero]); exact rfl))))
          case hc => (repeat' (first | exact ClsC.nil | exact ClsL.nil | apply ClsC.nl | apply ClsC.leaf rfl | apply ClsC.hd rfl | apply ClsC.fn | apply ClsR.tu | apply ClsL.cons | apply ClsV.ag | exact ClsV.bp | exact ClsV.one (ClsC.leaf rfl ClsC.nil) | exact ClsV.one (ClsC.nl ClsC.nil) | exact ClsV.one (ClsC.hd rfl ClsC.nil) | apply ClsR.one))
          case hr => (repeat' (first | exact RnV.leaf rfl | exact RnC.nil | apply RnC.cons | apply RnV.ag | apply RnV.tu | exact RnV.bp rfl))
          case ho => (repeat' (first | exact Out.nil | apply Out.cons rfl | exact ClsC.nil | apply ClsC.nl | apply ClsC.leaf rfl | apply ClsC.hd rfl | apply ClsC.fn | apply ClsC.fz rfl (ro_B _) | apply ClsC.fz rfl (ro_M _) | apply ClsC.fz rfl (ro_E _ _) | apply ClsC.fz rfl rfl))
          case hk => exact hks_of rfl
          case hq => (try dsimp only [resV, List.getD_cons_succ, List.getD_cons_zero]); exact ⟨rfl, rfl⟩
        | (exfalso; simp at *; done)
        | (simp only [hw, List.length_map, List.length_append, List.length_cons, List.length_nil] at *; exfalso; simp at *; done)
        | apply RetQ.mk (ks := []) (by first | exact .inr rfl | exact .inl rfl)
          case hl => (repeat' (first | exact ResL.nil | apply ResL.cons (Res1.row rfl rfl rfl rfl rfl) | apply ResL.cons (Res1.flat rfl rfl rfl rfl rfl) | apply ResL.cons (Res1.tmp (by (try simp only [List.getD_cons_succ, List.getD_cons_zero]); exact rfl))))
          case hc => (repeat' (first | exact ClsC.nil | exact ClsL.nil | apply ClsC.nl | apply ClsC.leaf rfl | apply ClsC.hd rfl | apply ClsC.fn | apply ClsR.tu | apply ClsL.cons | apply ClsV.ag | exact ClsV.bp | exact ClsV.one (ClsC.leaf rfl ClsC.nil) | exact ClsV.one (ClsC.nl ClsC.nil) | exact ClsV.one (ClsC.hd rfl ClsC.nil) | apply ClsR.one))
          case hr => (repeat' (first | exact RnV.leaf rfl | exact RnC.nil | apply RnC.cons | apply RnV.ag | apply RnV.tu | exact RnV.bp rfl))
          case ho => (repeat' (first | exact Out.nil | apply Out.cons rfl | exact ClsC.nil | apply ClsC.nl | apply ClsC.leaf rfl | apply ClsC.hd rfl | apply ClsC.fn | apply ClsC.fz rfl (ro_B _) | apply ClsC.fz rfl (ro_M _) | apply ClsC.fz rfl (ro_E _ _) | apply ClsC.fz rfl rfl))
          case hk => exact hks_of rfl
          case hq => (try dsimp only [resV, List.getD_cons_succ, List.getD_cons_zero]); exact ⟨by simp [hw], rfl⟩
set_option maxRecDepth 100000 in
theorem overDrops_lifted (os : Os) (started : os.Started) (H : Type) (enc : TypeId × Value → H) (F : Stop.Interp) :
    ReturnsInHanded {} Try.checked os 8 .any ((Rows.OpenSpec.upto Rows.overDropsSpec).pre6 enc Try.prog Try.f8 Rows.overDropsUptoRow.domain false) (((Rows.OpenSpec.upto Rows.overDropsSpec).at F).post enc Try.prog Try.f8 false true false false) := by
  refine returnsInHanded_of_cond (C := Try.checked) (s := Rows.OpenSpec.upto Rows.overDropsSpec) (k := Rows.uptoSmall) rfl own_knob started (by kernel_rfl) Try.func8
    (OpenSpec.witness (enc := enc) (C := Try.checked) (s := Rows.OpenSpec.upto Rows.overDropsSpec) (k := Rows.uptoSmall) rfl false ⟨#[], #[.slice none 0 0, .agg #[.int .i64 0, .slice none 0 0, .int .i64 0, .bool false, .int .i64 0], .bool false], []⟩ 8 (by kernel_rfl) (by kernel_rfl) (by kernel_rfl)
      (x := ([.nil, .agg [.agg [.lit (.int .i64 0), .nil], .lit (.int .i64 0), .lit (.bool false), .lit (.int .i64 0)], .lit (.bool false)], [], [])) (by kernel_rfl) rfl (by kernel_rfl)) ?_
  intro W base args ds gs before hval0 hW _ hk _
  have hval : ∀ (j : Nat) t v, Try.f8.params[j]? = some t → args[j]? = some v → Value.okWide Try.prog W .any base t v := hval0
  have hW' := hW
  obtain ⟨p, q, hA0, hV, rfl, hfz, hnd⟩ := hW
  have hA : DataW.TrodAll enc Try.prog W 0 (fun _ => true) true Try.f8.params.toList args.toList ds p := hA0
  rw [Try.params8] at hA hval
  obtain ⟨rfl, rfl⟩ := trodVars_none hV
  have hb := bulk_of hk
  obtain ⟨v0, vs0, d0, ds0, p0, q0, hargs, rfl, rfl, h0, r0⟩ := trodAll_cons hA
  obtain ⟨v1, vs1, d1, ds1, p1, q1, rfl, rfl, rfl, h1, r1⟩ := trodAll_cons r0
  obtain ⟨v2, vs2, d2, ds2, p2, q2, rfl, rfl, rfl, h2, r2⟩ := trodAll_cons r1
  obtain ⟨rfl, rfl, rfl⟩ := trodAll_nil r2
  obtain rfl : args = #[v0, v1, v2] := by cases args; simp_all
  simp only [List.append_nil, Rows.uptoBulkAll, Nat.add_zero] at hb
  obtain ⟨l, hl, hr0⟩ := arg_1 orcs (cells_slice Try.underlying38 (hval 0 _ v0 rfl rfl)) h0
  obtain ⟨b, hbk, hr1⟩ := arg_ag Try.underlying26 obk (hval 1 _ v1 rfl rfl) h1
  obtain ⟨i2, hi2, hr2⟩ := arg_1 obl (cells_bool Try.underlying4 (hval 2 _ v2 rfl rfl)) h2
  have hl1 := hl.1
  have hl2 := hl.2
  have hb2 := hbk.1.2.2
  refine (ac_law (drops_ac l b i2 (by omega) (fun r hr => by have := (hl1 r hr).2.2.2.2.2; omega) (by omega)) (W := W) (vs := [v0, v1, v2]) fun φ κ => .cons (S := Ct.z) (T := Ct.z) (hr0 φ κ) (.cons (S := Ct.z) (T := Ct.z) (hr1 φ κ) (.cons (S := Ct.z) (T := Ct.z) (hr2 φ κ) .nil fun _ => rfl) fun _ => rfl) fun _ => rfl).mono fun e W' ⟨he, hb⟩ => ⟨_, he, ?_⟩
  exact law_post laidOut rfl (by kernel_rfl) Try.underlying4 (by kernel_rfl) hW' (fun gs' h => by subst h; rfl) hb
theorem overDrops_holds : Rows.OverDropsUptoSaid :=
  OpenClaim.holds_of_cond 8 Try.f8 rfl rfl rfl rfl rfl rfl rfl ⟨rfl, rfl, rfl, rfl, rfl⟩ rfl rfl rfl rfl rfl (by kernel_rfl) Try.func8 (by kernel_rfl)
    (of_decide_eq_true (by kernel_rfl)) (by unfold Func.isWrapper; first | (rw [if_pos (by decide +kernel)]; kernel_rfl) | (rw [if_neg (by decide +kernel)]; exact ⟨rfl, rfl⟩))
    (fun os started H enc _ F => overDrops_lifted os started H enc F)
#print axioms overDrops_holds
end Go.Proofs.Ytkdbedbefojieaa
