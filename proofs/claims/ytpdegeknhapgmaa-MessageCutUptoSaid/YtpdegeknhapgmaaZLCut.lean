/-
  For every message, every number and all bytes (of bulk at most 1048576) the law MessageCut returns true, and each argument reads behind the call as it did. No other condition.
-/
import Derived.Test.YtpdegeknhapgmaaZ1
import Derived.Test.YtpdegeknhapgmaaZ2
import Derived.Test.YtpdegeknhapgmaaZ3
import Derived.Test.YtpdegeknhapgmaaZ4
import Derived.Test.YtpdegeknhapgmaaZ5
import Derived.Test.YtpdegeknhapgmaaZ6
import Derived.Deep.CondSized
namespace Go.Proofs.Ytpdegeknhapgmaa
set_option linter.unusedVariables false
set_option linter.unusedSimpArgs false
set_option maxHeartbeats 8000000
open Go.RowKit Go.ChangeShapes Go.WideShapes Go.ChangeAt Go.Deep
set_option maxRecDepth 100000
theorem flatR_len : ∀ {l : List Entry}, (∀ e ∈ l, e.body.length ≤ 1024) → ((l.map restF).flatten).length ≤ 1052 * l.length
  | [], _ => by simp
  | e :: l, h => by
    have := flatR_len (l := l) fun x hx => h x (by simp [hx])
    have := h e (by simp)
    have := restF_length e
    simp only [List.map_cons, List.flatten_cons, List.length_append, List.length_cons]
    omega
theorem formM_len2 {m : Msg} (h : mayM m = true) : (formM m).length ≤ 21000 := by
  unfold mayM at h
  unfold formM fieldF
  have ask : mayAsk m = true → (askF m).length ≤ 20100 := fun h => by
    simp only [mayAsk, Bool.and_eq_true, decide_eq_true_eq] at h
    simp [askF, numS_length, putS_length]; omega
  split at h
  all_goals (rename_i hk; (try simp only [hk]))
  · simp only [Bool.and_eq_true] at h; have := ask h.1; simp; omega
  · simp only [Bool.and_eq_true] at h
    have hb := mayEnt_body h.1
    have := flatR_len hb.2
    simp only [List.length_cons, entF, List.length_append, numS_length, List.length_nil]; omega
  · simp [numS_length]
  · simp only [Bool.and_eq_true] at h
    have h1 := h.1
    simp only [mayCfg, Bool.and_eq_true, decide_eq_true_eq] at h1
    simp only [List.length_cons, configF_length]; omega
  · simp [numS_length]
  · simp only [Bool.and_eq_true] at h; have := ask h.1; simp; omega
  · cases h
section
attribute [local irreducible] IntKind.wrap
theorem cut_0 (m : Msg) (cut : Int) (b : List UInt8) (hb : b.length ≤ 100000000) (hgreat : AC Try.prog 21 [.ag (eG m)] [] (fun v bs => v = B (greatS m) ∧ bs = [])) (hgt : greatS m = true ∨ 50 < b.length) :
    AC Try.prog 6 [.ag (eG m), I cut, bs none b] [] (fun v bs' => v = B true ∧ bs' = []) := by
  refine AC.enter Try.func6 rfl rfl Try.ntmps6 (fl1_all rfl) (by (repeat' (first | exact Bk.nil | apply Bk.cons rfl rfl rfl))) ?_
  intro X
  simp only [nm, newS, plc, spl, bldA, bldS, zrow, chunks, ZC.val, Nat.reduceAdd, Nat.reduceSub, BEq.rfl]
  repeat' (first
    | ((first
    | ((with_reducible apply AP.k_any); first
             | (refine AP.sm false rfl ?_ ?_; focus ((repeat' (with_reducible apply And.intro)) <;> (first | exact True.intro | exact rfl | omega | (simp; omega) | (simp; done) | assumption | exact .inl rfl | (refine .inr ?_; simp; try omega))))
             | (refine AP.gyes rfl rfl rfl ?_; dsimp only) | (refine AP.gsplit rfl rfl rfl (fun hg => ?_) (fun hg => ?_))
      )
    | ((with_reducible apply AP.k_any); refine ap_callX rfl rfl (fn := 30) rfl (awake_ac) (by (repeat' (first | exact PasC.nil | apply PasC.nil | apply PasC.cons | apply PasV.leaf rfl | apply PasV.nl | apply PasV.bp rfl | apply PasV.lend rfl rfl rfl | apply PasV.lend rfl rfl (ro_B _) | apply PasV.lend rfl rfl (ro_M _) | apply PasV.lend rfl rfl (ro_E _ _) | apply PasV.lend rfl rfl (ro_I _) | apply PasV.mv rfl | apply PasV.ag | apply PasV.fn | exact PasV.fs | apply PasV.any))) rfl rfl ?_)
    | ((with_reducible apply AP.k_any); refine ap_callX rfl rfl (fn := 21) rfl (hgreat) (by (repeat' (first | exact PasC.nil | apply PasC.nil | apply PasC.cons | apply PasV.leaf rfl | apply PasV.nl | apply PasV.bp rfl | apply PasV.lend rfl rfl rfl | apply PasV.lend rfl rfl (ro_B _) | apply PasV.lend rfl rfl (ro_M _) | apply PasV.lend rfl rfl (ro_E _ _) | apply PasV.lend rfl rfl (ro_I _) | apply PasV.mv rfl | apply PasV.ag | apply PasV.fn | exact PasV.fs | apply PasV.any))) rfl rfl ?_)
    )
      <;> (try simp only [nm, newS, plc, spl, bldA, bldS, zrow, chunks, ZC.val, Nat.reduceAdd, Nat.reduceSub, BEq.rfl]))
    | ((with_reducible apply AP.k_nil); first
        | (refine AP.nil (hQ' _ ?_); clear hQ' Q')
        | refine AP.nil ?_)
    | ((with_reducible apply CP.k_reg); refine cp_regG fun Q' hQ' => ?_)
      | (with_reducible apply CP.k_reg1; refine cp_region ?_)
      | ((with_reducible apply CP.k_cond); first
          | refine cp_condT rfl ?_
          | refine cp_condF rfl ?_
          | refine cp_cond rfl (fun hc => ?_) (fun hc => ?_))
      | (with_reducible first | refine cp_block ?_ | refine cp_exit ?_ | refine cp_ret ?_ | refine cp_skip ?_ | refine cp_seq ?_ | refine inB_hit ?_ | refine inB_n ?_ | refine inB_r ?_ | refine thenQ_n ?_ | refine thenQ_r ?_ | refine thenQ_e ?_ | refine cpn_succ ?_)
      | (refine inB_miss rfl ?_)
      | (simp only [List.append_eq, List.cons_append, List.nil_append]))
  all_goals first
    | (apply RetQ.mk (ks := []) (by first | exact .inr rfl | exact .inl rfl) (by exact ⟨rfl, rfl⟩) <;> ((repeat' (first | exact RnV.leaf rfl | exact RnC.nil | apply RnC.cons | apply RnV.ag | apply RnV.tu | exact RnV.bp rfl | exact ResL.nil | apply ResL.cons (Res1.row rfl rfl rfl rfl rfl) | apply ResL.cons (Res1.flat rfl rfl rfl rfl rfl) | apply ResL.cons (Res1.tmp (by (try simp only [List.getD_cons_succ, List.getD_cons_zero]); exact rfl)) | exact ClsC.nil | exact ClsL.nil | apply ClsC.nl | apply ClsC.leaf rfl | apply ClsC.hd rfl | apply ClsC.fn | apply ClsR.tu | apply ClsL.cons | apply ClsV.ag | exact ClsV.bp | exact ClsV.one (ClsC.leaf rfl ClsC.nil) | exact ClsV.one (ClsC.nl ClsC.nil) | exact ClsV.one (ClsC.hd rfl ClsC.nil) | apply ClsR.one | exact Out.nil | apply Out.cons rfl | exact hks_of rfl)); done))
    
    | (exfalso; simp at *; omega)
    | (exfalso; simp at *; simp_all; omega)
theorem cut_1 (m : Msg) (cut : Int) (F G : List UInt8) (hcut : -9223372036854775808 ≤ cut ∧ cut ≤ 9223372036854775807) (hf : F.length ≤ 21000) (hgreat : AC Try.prog 21 [.ag (eG m)] [] (fun v bs => v = B false ∧ bs = [])) (hp : AC Try.prog 23 [.ag (eG m)] [] (fun v bs' => v = .tu [bs none (F, (0 : Int)).1, I (F, (0 : Int)).2] ∧ bs' = [])) (hcat : AC Try.prog 31 [bss none [F, []]] [] (fun v bs' => v = bs none G ∧ bs' = [])) (h1 : AC Try.prog 28 [bs none (F.take (IntKind.i64.wrap ((F.length : Int) - cut)).toNat)] [] (fun v bs' => v = .tu [.ag (eG (msg0, (200 : Int)).1), I (msg0, (200 : Int)).2] ∧ bs' = [])) (hq : AC Try.prog 28 [bs none G] [] (fun v bs' => v = .tu [.ag (eG (m, (0 : Int)).1), I (m, (0 : Int)).2] ∧ bs' = [])) (hc1 : 0 < cut ∧ cut ≤ F.length) :
    AC Try.prog 6 [.ag (eG m), I cut, bs none []] [] (fun v bs' => v = B true ∧ bs' = []) := by
  have hw : IntKind.i64.wrap (((F.length : Int)) - cut) = (F.length : Int) - cut := wrap_i64 (by omega) (by omega)
  have hwa : 0 ≤ IntKind.i64.wrap ((F.length : Int) - cut) ∧ IntKind.i64.wrap ((F.length : Int) - cut) ≤ (F.length : Int) := by omega
  have hwb : IntKind.i64.wrap ((F.length : Int) - cut) ≤ ((F.map eB).length : Int) := by simp; omega
  have hwc := hwa.1
  refine AC.enter Try.func6 rfl rfl Try.ntmps6 (fl1_all rfl) (by (repeat' (first | exact Bk.nil | apply Bk.cons rfl rfl rfl))) ?_
  intro X
  simp only [nm, newS, plc, spl, bldA, bldS, zrow, chunks, ZC.val, Nat.reduceAdd, Nat.reduceSub, BEq.rfl]
  repeat' (first
    | ((first
    | ((with_reducible apply AP.k_any); first
             | (refine AP.sm false rfl ?_ ?_; focus ((repeat' (with_reducible apply And.intro)) <;> (first | exact True.intro | exact rfl | omega | (simp; omega) | (simp; done) | assumption | exact .inl rfl | (refine .inr ?_; simp; try omega))))
             | (refine AP.gyes rfl rfl rfl ?_; dsimp only) | (refine AP.gsplit rfl rfl rfl (fun hg => ?_) (fun hg => ?_))
      )
    | ((with_reducible apply AP.k_any); refine ap_callX rfl rfl (fn := 30) rfl (awake_ac) (by (repeat' (first | exact PasC.nil | apply PasC.nil | apply PasC.cons | apply PasV.leaf rfl | apply PasV.nl | apply PasV.bp rfl | apply PasV.lend rfl rfl rfl | apply PasV.lend rfl rfl (ro_B _) | apply PasV.lend rfl rfl (ro_M _) | apply PasV.lend rfl rfl (ro_E _ _) | apply PasV.lend rfl rfl (ro_I _) | apply PasV.mv rfl | apply PasV.ag | apply PasV.fn | exact PasV.fs | apply PasV.any))) rfl rfl ?_)
    | ((with_reducible apply AP.k_any); refine ap_callX rfl rfl (fn := 21) rfl (hgreat) (by (repeat' (first | exact PasC.nil | apply PasC.nil | apply PasC.cons | apply PasV.leaf rfl | apply PasV.nl | apply PasV.bp rfl | apply PasV.lend rfl rfl rfl | apply PasV.lend rfl rfl (ro_B _) | apply PasV.lend rfl rfl (ro_M _) | apply PasV.lend rfl rfl (ro_E _ _) | apply PasV.lend rfl rfl (ro_I _) | apply PasV.mv rfl | apply PasV.ag | apply PasV.fn | exact PasV.fs | apply PasV.any))) rfl rfl ?_)
    | ((with_reducible apply AP.k_any); refine ap_callX rfl rfl (fn := 23) rfl (hp) (by (repeat' (first | exact PasC.nil | apply PasC.nil | apply PasC.cons | apply PasV.leaf rfl | apply PasV.nl | apply PasV.bp rfl | apply PasV.lend rfl rfl rfl | apply PasV.lend rfl rfl (ro_B _) | apply PasV.lend rfl rfl (ro_M _) | apply PasV.lend rfl rfl (ro_E _ _) | apply PasV.lend rfl rfl (ro_I _) | apply PasV.mv rfl | apply PasV.ag | apply PasV.fn | exact PasV.fs | apply PasV.any))) rfl rfl ?_)
      | ((with_reducible apply AP.k_any); refine ap_callX rfl rfl (fn := 28) rfl (h1) (by (repeat' (first | exact PasC.nil | apply PasC.nil | apply PasC.cons | apply PasV.leaf rfl | apply PasV.nl | apply PasV.bp rfl | apply PasV.lend rfl rfl rfl | apply PasV.lend rfl rfl (ro_B _) | apply PasV.lend rfl rfl (ro_M _) | apply PasV.lend rfl rfl (ro_E _ _) | apply PasV.lend rfl rfl (ro_I _) | apply PasV.mv rfl | apply PasV.ag | apply PasV.fn | exact PasV.fs | apply PasV.any))) rfl rfl ?_)
      | ((with_reducible apply AP.k_any); refine ap_callX rfl rfl (fn := 31) rfl (hcat) (by (repeat' (first | exact PasC.nil | apply PasC.nil | apply PasC.cons | apply PasV.leaf rfl | apply PasV.nl | apply PasV.bp rfl | apply PasV.lend rfl rfl rfl | apply PasV.lend rfl rfl (ro_B _) | apply PasV.lend rfl rfl (ro_M _) | apply PasV.lend rfl rfl (ro_E _ _) | apply PasV.lend rfl rfl (ro_I _) | apply PasV.mv rfl | apply PasV.ag | apply PasV.fn | exact PasV.fs | apply PasV.any))) rfl rfl ?_)
      | ((with_reducible apply AP.k_any); refine ap_callX rfl rfl (fn := 28) rfl (hq) (by (repeat' (first | exact PasC.nil | apply PasC.nil | apply PasC.cons | apply PasV.leaf rfl | apply PasV.nl | apply PasV.bp rfl | apply PasV.lend rfl rfl rfl | apply PasV.lend rfl rfl (ro_B _) | apply PasV.lend rfl rfl (ro_M _) | apply PasV.lend rfl rfl (ro_E _ _) | apply PasV.lend rfl rfl (ro_I _) | apply PasV.mv rfl | apply PasV.ag | apply PasV.fn | exact PasV.fs | apply PasV.any))) rfl rfl ?_)
      | ((with_reducible apply AP.k_any); refine AP.gh (gh_fz (b := 2) (u := 1) rfl rfl (by (repeat' (first | exact FzC.nil | apply FzC.cons | exact FzV.hd | apply FzV.ag | exact FzV.same))) (by (repeat' (first | exact FzB.nil | apply FzB.c | apply FzB.same | exact FzC.nil | apply FzC.cons | exact FzV.hd | apply FzV.ag | exact FzV.same)))) ?_; (try simp only [nm, newS, plc, spl, bldA, bldS, zrow, chunks, ZC.val, Nat.reduceAdd, Nat.reduceSub, BEq.rfl]); (try simp only [ro_B]))
    )
      <;> (try simp only [nm, newS, plc, spl, bldA, bldS, zrow, chunks, ZC.val, Nat.reduceAdd, Nat.reduceSub, BEq.rfl]))
    | ((with_reducible apply AP.k_nil); first
        | (refine AP.nil (hQ' _ ?_); clear hQ' Q')
        | refine AP.nil ?_)
    | ((with_reducible apply CP.k_reg); refine cp_regG fun Q' hQ' => ?_)
      | (with_reducible apply CP.k_reg1; refine cp_region ?_)
      | ((with_reducible apply CP.k_cond); first
          | refine cp_condT rfl ?_
          | refine cp_condF rfl ?_
          | refine cp_cond rfl (fun hc => ?_) (fun hc => ?_))
      | (with_reducible first | refine cp_block ?_ | refine cp_exit ?_ | refine cp_ret ?_ | refine cp_skip ?_ | refine cp_seq ?_ | refine inB_hit ?_ | refine inB_n ?_ | refine inB_r ?_ | refine thenQ_n ?_ | refine thenQ_r ?_ | refine thenQ_e ?_ | refine cpn_succ ?_)
      | (refine inB_miss rfl ?_)
      | (simp only [List.append_eq, List.cons_append, List.nil_append]))
  all_goals first
    | (apply RetQ.mk (ks := []) (by first | exact .inr rfl | exact .inl rfl) (by exact ⟨rfl, rfl⟩) <;> ((repeat' (first | exact RnV.leaf rfl | exact RnC.nil | apply RnC.cons | apply RnV.ag | apply RnV.tu | exact RnV.bp rfl | exact ResL.nil | apply ResL.cons (Res1.row rfl rfl rfl rfl rfl) | apply ResL.cons (Res1.flat rfl rfl rfl rfl rfl) | apply ResL.cons (Res1.tmp (by (try simp only [List.getD_cons_succ, List.getD_cons_zero]); exact rfl)) | exact ClsC.nil | exact ClsL.nil | apply ClsC.nl | apply ClsC.leaf rfl | apply ClsC.hd rfl | apply ClsC.fn | apply ClsR.tu | apply ClsL.cons | apply ClsV.ag | exact ClsV.bp | exact ClsV.one (ClsC.leaf rfl ClsC.nil) | exact ClsV.one (ClsC.nl ClsC.nil) | exact ClsV.one (ClsC.hd rfl ClsC.nil) | apply ClsR.one | exact Out.nil | apply Out.cons rfl | exact hks_of rfl)); done))
    
    | (exfalso; simp at *; omega)
    
theorem cut_2 (m : Msg) (cut : Int) (b : List UInt8) (hb5 : b.length ≤ 50) (hn : ¬b = []) (F G : List UInt8) (hcut : -9223372036854775808 ≤ cut ∧ cut ≤ 9223372036854775807) (hf : F.length ≤ 21000) (hgreat : AC Try.prog 21 [.ag (eG m)] [] (fun v bs => v = B false ∧ bs = [])) (hp : AC Try.prog 23 [.ag (eG m)] [] (fun v bs' => v = .tu [bs none (F, (0 : Int)).1, I (F, (0 : Int)).2] ∧ bs' = [])) (hcat : AC Try.prog 31 [bss none [F, b]] [] (fun v bs' => v = bs none G ∧ bs' = [])) (h1 : AC Try.prog 28 [bs none (F.take (IntKind.i64.wrap ((F.length : Int) - cut)).toNat)] [] (fun v bs' => v = .tu [.ag (eG (msg0, (200 : Int)).1), I (msg0, (200 : Int)).2] ∧ bs' = [])) (hq : AC Try.prog 28 [bs none G] [] (fun v bs' => v = .tu [.ag (eG (msg0, (200 : Int)).1), I (msg0, (200 : Int)).2] ∧ bs' = [])) (hc1 : 0 < cut ∧ cut ≤ F.length) :
    AC Try.prog 6 [.ag (eG m), I cut, bs none b] [] (fun v bs' => v = B true ∧ bs' = []) := by
  have hw : IntKind.i64.wrap (((F.length : Int)) - cut) = (F.length : Int) - cut := wrap_i64 (by omega) (by omega)
  have hwa : 0 ≤ IntKind.i64.wrap ((F.length : Int) - cut) ∧ IntKind.i64.wrap ((F.length : Int) - cut) ≤ (F.length : Int) := by omega
  have hwb : IntKind.i64.wrap ((F.length : Int) - cut) ≤ ((F.map eB).length : Int) := by simp; omega
  have hwc := hwa.1
  have hn0 : ((b.length : Int) == 0) = false := by have := List.length_pos_iff.2 hn; simp; exact hn
  refine AC.enter Try.func6 rfl rfl Try.ntmps6 (fl1_all rfl) (by (repeat' (first | exact Bk.nil | apply Bk.cons rfl rfl rfl))) ?_
  intro X
  simp only [nm, newS, plc, spl, bldA, bldS, zrow, chunks, ZC.val, Nat.reduceAdd, Nat.reduceSub, BEq.rfl]
  repeat' (first
    | ((first
    | ((with_reducible apply AP.k_any); first
             | (refine AP.sm false rfl ?_ ?_; focus ((repeat' (with_reducible apply And.intro)) <;> (first | exact True.intro | exact rfl | omega | (simp; omega) | (simp; done) | assumption | exact .inl rfl | (refine .inr ?_; simp; try omega))))
             | (refine AP.gyes rfl rfl rfl ?_; dsimp only) | (refine AP.gsplit rfl rfl rfl (fun hg => ?_) (fun hg => ?_))
      )
    | ((with_reducible apply AP.k_any); refine ap_callX rfl rfl (fn := 30) rfl (awake_ac) (by (repeat' (first | exact PasC.nil | apply PasC.nil | apply PasC.cons | apply PasV.leaf rfl | apply PasV.nl | apply PasV.bp rfl | apply PasV.lend rfl rfl rfl | apply PasV.lend rfl rfl (ro_B _) | apply PasV.lend rfl rfl (ro_M _) | apply PasV.lend rfl rfl (ro_E _ _) | apply PasV.lend rfl rfl (ro_I _) | apply PasV.mv rfl | apply PasV.ag | apply PasV.fn | exact PasV.fs | apply PasV.any))) rfl rfl ?_)
    | ((with_reducible apply AP.k_any); refine ap_callX rfl rfl (fn := 21) rfl (hgreat) (by (repeat' (first | exact PasC.nil | apply PasC.nil | apply PasC.cons | apply PasV.leaf rfl | apply PasV.nl | apply PasV.bp rfl | apply PasV.lend rfl rfl rfl | apply PasV.lend rfl rfl (ro_B _) | apply PasV.lend rfl rfl (ro_M _) | apply PasV.lend rfl rfl (ro_E _ _) | apply PasV.lend rfl rfl (ro_I _) | apply PasV.mv rfl | apply PasV.ag | apply PasV.fn | exact PasV.fs | apply PasV.any))) rfl rfl ?_)
    | ((with_reducible apply AP.k_any); refine ap_callX rfl rfl (fn := 23) rfl (hp) (by (repeat' (first | exact PasC.nil | apply PasC.nil | apply PasC.cons | apply PasV.leaf rfl | apply PasV.nl | apply PasV.bp rfl | apply PasV.lend rfl rfl rfl | apply PasV.lend rfl rfl (ro_B _) | apply PasV.lend rfl rfl (ro_M _) | apply PasV.lend rfl rfl (ro_E _ _) | apply PasV.lend rfl rfl (ro_I _) | apply PasV.mv rfl | apply PasV.ag | apply PasV.fn | exact PasV.fs | apply PasV.any))) rfl rfl ?_)
      | ((with_reducible apply AP.k_any); refine ap_callX rfl rfl (fn := 28) rfl (h1) (by (repeat' (first | exact PasC.nil | apply PasC.nil | apply PasC.cons | apply PasV.leaf rfl | apply PasV.nl | apply PasV.bp rfl | apply PasV.lend rfl rfl rfl | apply PasV.lend rfl rfl (ro_B _) | apply PasV.lend rfl rfl (ro_M _) | apply PasV.lend rfl rfl (ro_E _ _) | apply PasV.lend rfl rfl (ro_I _) | apply PasV.mv rfl | apply PasV.ag | apply PasV.fn | exact PasV.fs | apply PasV.any))) rfl rfl ?_)
      | ((with_reducible apply AP.k_any); refine ap_callX rfl rfl (fn := 31) rfl (hcat) (by (repeat' (first | exact PasC.nil | apply PasC.nil | apply PasC.cons | apply PasV.leaf rfl | apply PasV.nl | apply PasV.bp rfl | apply PasV.lend rfl rfl rfl | apply PasV.lend rfl rfl (ro_B _) | apply PasV.lend rfl rfl (ro_M _) | apply PasV.lend rfl rfl (ro_E _ _) | apply PasV.lend rfl rfl (ro_I _) | apply PasV.mv rfl | apply PasV.ag | apply PasV.fn | exact PasV.fs | apply PasV.any))) rfl rfl ?_)
      | ((with_reducible apply AP.k_any); refine ap_callX rfl rfl (fn := 28) rfl (hq) (by (repeat' (first | exact PasC.nil | apply PasC.nil | apply PasC.cons | apply PasV.leaf rfl | apply PasV.nl | apply PasV.bp rfl | apply PasV.lend rfl rfl rfl | apply PasV.lend rfl rfl (ro_B _) | apply PasV.lend rfl rfl (ro_M _) | apply PasV.lend rfl rfl (ro_E _ _) | apply PasV.lend rfl rfl (ro_I _) | apply PasV.mv rfl | apply PasV.ag | apply PasV.fn | exact PasV.fs | apply PasV.any))) rfl rfl ?_)
      | ((with_reducible apply AP.k_any); refine AP.gh (gh_fz (b := 2) (u := 1) rfl rfl (by (repeat' (first | exact FzC.nil | apply FzC.cons | exact FzV.hd | apply FzV.ag | exact FzV.same))) (by (repeat' (first | exact FzB.nil | apply FzB.c | apply FzB.same | exact FzC.nil | apply FzC.cons | exact FzV.hd | apply FzV.ag | exact FzV.same)))) ?_; (try simp only [nm, newS, plc, spl, bldA, bldS, zrow, chunks, ZC.val, Nat.reduceAdd, Nat.reduceSub, BEq.rfl]); (try simp only [ro_B]))
    )
      <;> (try simp only [nm, newS, plc, spl, bldA, bldS, zrow, chunks, ZC.val, Nat.reduceAdd, Nat.reduceSub, BEq.rfl]))
    | ((with_reducible apply AP.k_nil); first
        | (refine AP.nil (hQ' _ ?_); clear hQ' Q')
        | refine AP.nil ?_)
    | ((with_reducible apply CP.k_reg); refine cp_regG fun Q' hQ' => ?_)
      | (with_reducible apply CP.k_reg1; refine cp_region ?_)
      | ((with_reducible apply CP.k_cond); first
          | refine cp_condT rfl ?_
          | refine cp_condF rfl ?_
          | refine cp_cond rfl (fun hc => ?_) (fun hc => ?_))
      | (with_reducible first | refine cp_block ?_ | refine cp_exit ?_ | refine cp_ret ?_ | refine cp_skip ?_ | refine cp_seq ?_ | refine inB_hit ?_ | refine inB_n ?_ | refine inB_r ?_ | refine thenQ_n ?_ | refine thenQ_r ?_ | refine thenQ_e ?_ | refine cpn_succ ?_)
      | (refine inB_miss rfl ?_)
      | (simp only [List.append_eq, List.cons_append, List.nil_append]))
  all_goals first
    | (apply RetQ.mk (ks := []) (by first | exact .inr rfl | exact .inl rfl) (by exact ⟨rfl, rfl⟩) <;> ((repeat' (first | exact RnV.leaf rfl | exact RnC.nil | apply RnC.cons | apply RnV.ag | apply RnV.tu | exact RnV.bp rfl | exact ResL.nil | apply ResL.cons (Res1.row rfl rfl rfl rfl rfl) | apply ResL.cons (Res1.flat rfl rfl rfl rfl rfl) | apply ResL.cons (Res1.tmp (by (try simp only [List.getD_cons_succ, List.getD_cons_zero]); exact rfl)) | exact ClsC.nil | exact ClsL.nil | apply ClsC.nl | apply ClsC.leaf rfl | apply ClsC.hd rfl | apply ClsC.fn | apply ClsR.tu | apply ClsL.cons | apply ClsV.ag | exact ClsV.bp | exact ClsV.one (ClsC.leaf rfl ClsC.nil) | exact ClsV.one (ClsC.nl ClsC.nil) | exact ClsV.one (ClsC.hd rfl ClsC.nil) | apply ClsR.one | exact Out.nil | apply Out.cons rfl | exact hks_of rfl)); done))
    | (apply RetQ.mk2 (ks := []) (by first | exact .inr rfl | exact .inl rfl); (iterate 5 (focus ((repeat' (first | exact RnV.leaf rfl | exact RnC.nil | apply RnC.cons | apply RnV.ag | apply RnV.tu | exact RnV.bp rfl | exact ResL.nil | apply ResL.cons (Res1.row rfl rfl rfl rfl rfl) | apply ResL.cons (Res1.flat rfl rfl rfl rfl rfl) | apply ResL.cons (Res1.tmp (by (try simp only [List.getD_cons_succ, List.getD_cons_zero]); exact rfl)) | exact ClsC.nil | exact ClsL.nil | apply ClsC.nl | apply ClsC.leaf rfl | apply ClsC.hd rfl | apply ClsC.fn | apply ClsR.tu | apply ClsL.cons | apply ClsV.ag | exact ClsV.bp | exact ClsV.one (ClsC.leaf rfl ClsC.nil) | exact ClsV.one (ClsC.nl ClsC.nil) | exact ClsV.one (ClsC.hd rfl ClsC.nil) | apply ClsR.one | exact Out.nil | apply Out.cons rfl | exact hks_of rfl)); done))); (try dsimp only [resV, List.getD_cons_succ, List.getD_cons_zero]); (exact ⟨congrArg B (by simp [hn]), rfl⟩))
    | (exfalso; simp at *; omega)
    
theorem cut_3 (m : Msg) (cut : Int) (F G : List UInt8) (hcut : -9223372036854775808 ≤ cut ∧ cut ≤ 9223372036854775807) (hf : F.length ≤ 21000) (hgreat : AC Try.prog 21 [.ag (eG m)] [] (fun v bs => v = B false ∧ bs = [])) (hp : AC Try.prog 23 [.ag (eG m)] [] (fun v bs' => v = .tu [bs none (F, (0 : Int)).1, I (F, (0 : Int)).2] ∧ bs' = [])) (hcat : AC Try.prog 31 [bss none [F, []]] [] (fun v bs' => v = bs none G ∧ bs' = [])) (hq : AC Try.prog 28 [bs none G] [] (fun v bs' => v = .tu [.ag (eG (m, (0 : Int)).1), I (m, (0 : Int)).2] ∧ bs' = [])) (hc2 : ¬ (0 < cut) ∨ ¬ (cut ≤ F.length)) :
    AC Try.prog 6 [.ag (eG m), I cut, bs none []] [] (fun v bs' => v = B true ∧ bs' = []) := by
  refine AC.enter Try.func6 rfl rfl Try.ntmps6 (fl1_all rfl) (by (repeat' (first | exact Bk.nil | apply Bk.cons rfl rfl rfl))) ?_
  intro X
  simp only [nm, newS, plc, spl, bldA, bldS, zrow, chunks, ZC.val, Nat.reduceAdd, Nat.reduceSub, BEq.rfl]
  repeat' (first
    | ((first
    | ((with_reducible apply AP.k_any); first
             | (refine AP.sm false rfl ?_ ?_; focus ((repeat' (with_reducible apply And.intro)) <;> (first | exact True.intro | exact rfl | omega | (simp; omega) | (simp; done) | assumption | exact .inl rfl | (refine .inr ?_; simp; try omega))))
             | (refine AP.gyes rfl rfl rfl ?_; dsimp only) | (refine AP.gsplit rfl rfl rfl (fun hg => ?_) (fun hg => ?_))
      )
    | ((with_reducible apply AP.k_any); refine ap_callX rfl rfl (fn := 30) rfl (awake_ac) (by (repeat' (first | exact PasC.nil | apply PasC.nil | apply PasC.cons | apply PasV.leaf rfl | apply PasV.nl | apply PasV.bp rfl | apply PasV.lend rfl rfl rfl | apply PasV.lend rfl rfl (ro_B _) | apply PasV.lend rfl rfl (ro_M _) | apply PasV.lend rfl rfl (ro_E _ _) | apply PasV.lend rfl rfl (ro_I _) | apply PasV.mv rfl | apply PasV.ag | apply PasV.fn | exact PasV.fs | apply PasV.any))) rfl rfl ?_)
    | ((with_reducible apply AP.k_any); refine ap_callX rfl rfl (fn := 21) rfl (hgreat) (by (repeat' (first | exact PasC.nil | apply PasC.nil | apply PasC.cons | apply PasV.leaf rfl | apply PasV.nl | apply PasV.bp rfl | apply PasV.lend rfl rfl rfl | apply PasV.lend rfl rfl (ro_B _) | apply PasV.lend rfl rfl (ro_M _) | apply PasV.lend rfl rfl (ro_E _ _) | apply PasV.lend rfl rfl (ro_I _) | apply PasV.mv rfl | apply PasV.ag | apply PasV.fn | exact PasV.fs | apply PasV.any))) rfl rfl ?_)
    | ((with_reducible apply AP.k_any); refine ap_callX rfl rfl (fn := 23) rfl (hp) (by (repeat' (first | exact PasC.nil | apply PasC.nil | apply PasC.cons | apply PasV.leaf rfl | apply PasV.nl | apply PasV.bp rfl | apply PasV.lend rfl rfl rfl | apply PasV.lend rfl rfl (ro_B _) | apply PasV.lend rfl rfl (ro_M _) | apply PasV.lend rfl rfl (ro_E _ _) | apply PasV.lend rfl rfl (ro_I _) | apply PasV.mv rfl | apply PasV.ag | apply PasV.fn | exact PasV.fs | apply PasV.any))) rfl rfl ?_)
      | ((with_reducible apply AP.k_any); refine ap_callX rfl rfl (fn := 31) rfl (hcat) (by (repeat' (first | exact PasC.nil | apply PasC.nil | apply PasC.cons | apply PasV.leaf rfl | apply PasV.nl | apply PasV.bp rfl | apply PasV.lend rfl rfl rfl | apply PasV.lend rfl rfl (ro_B _) | apply PasV.lend rfl rfl (ro_M _) | apply PasV.lend rfl rfl (ro_E _ _) | apply PasV.lend rfl rfl (ro_I _) | apply PasV.mv rfl | apply PasV.ag | apply PasV.fn | exact PasV.fs | apply PasV.any))) rfl rfl ?_)
      | ((with_reducible apply AP.k_any); refine ap_callX rfl rfl (fn := 28) rfl (hq) (by (repeat' (first | exact PasC.nil | apply PasC.nil | apply PasC.cons | apply PasV.leaf rfl | apply PasV.nl | apply PasV.bp rfl | apply PasV.lend rfl rfl rfl | apply PasV.lend rfl rfl (ro_B _) | apply PasV.lend rfl rfl (ro_M _) | apply PasV.lend rfl rfl (ro_E _ _) | apply PasV.lend rfl rfl (ro_I _) | apply PasV.mv rfl | apply PasV.ag | apply PasV.fn | exact PasV.fs | apply PasV.any))) rfl rfl ?_)
      | ((with_reducible apply AP.k_any); refine AP.gh (gh_fz (b := 1) (u := 1) rfl rfl (by (repeat' (first | exact FzC.nil | apply FzC.cons | exact FzV.hd | apply FzV.ag | exact FzV.same))) (by (repeat' (first | exact FzB.nil | apply FzB.c | apply FzB.same | exact FzC.nil | apply FzC.cons | exact FzV.hd | apply FzV.ag | exact FzV.same)))) ?_; (try simp only [nm, newS, plc, spl, bldA, bldS, zrow, chunks, ZC.val, Nat.reduceAdd, Nat.reduceSub, BEq.rfl]); (try simp only [ro_B]))
    )
      <;> (try simp only [nm, newS, plc, spl, bldA, bldS, zrow, chunks, ZC.val, Nat.reduceAdd, Nat.reduceSub, BEq.rfl]))
    | ((with_reducible apply AP.k_nil); first
        | (refine AP.nil (hQ' _ ?_); clear hQ' Q')
        | refine AP.nil ?_)
    | ((with_reducible apply CP.k_reg); refine cp_regG fun Q' hQ' => ?_)
      | (with_reducible apply CP.k_reg1; refine cp_region ?_)
      | ((with_reducible apply CP.k_cond); first
          | refine cp_condT rfl ?_
          | refine cp_condF rfl ?_
          | refine cp_cond rfl (fun hc => ?_) (fun hc => ?_))
      | (with_reducible first | refine cp_block ?_ | refine cp_exit ?_ | refine cp_ret ?_ | refine cp_skip ?_ | refine cp_seq ?_ | refine inB_hit ?_ | refine inB_n ?_ | refine inB_r ?_ | refine thenQ_n ?_ | refine thenQ_r ?_ | refine thenQ_e ?_ | refine cpn_succ ?_)
      | (refine inB_miss rfl ?_)
      | (simp only [List.append_eq, List.cons_append, List.nil_append]))
  all_goals first
    | (apply RetQ.mk (ks := []) (by first | exact .inr rfl | exact .inl rfl) (by exact ⟨rfl, rfl⟩) <;> ((repeat' (first | exact RnV.leaf rfl | exact RnC.nil | apply RnC.cons | apply RnV.ag | apply RnV.tu | exact RnV.bp rfl | exact ResL.nil | apply ResL.cons (Res1.row rfl rfl rfl rfl rfl) | apply ResL.cons (Res1.flat rfl rfl rfl rfl rfl) | apply ResL.cons (Res1.tmp (by (try simp only [List.getD_cons_succ, List.getD_cons_zero]); exact rfl)) | exact ClsC.nil | exact ClsL.nil | apply ClsC.nl | apply ClsC.leaf rfl | apply ClsC.hd rfl | apply ClsC.fn | apply ClsR.tu | apply ClsL.cons | apply ClsV.ag | exact ClsV.bp | exact ClsV.one (ClsC.leaf rfl ClsC.nil) | exact ClsV.one (ClsC.nl ClsC.nil) | exact ClsV.one (ClsC.hd rfl ClsC.nil) | apply ClsR.one | exact Out.nil | apply Out.cons rfl | exact hks_of rfl)); done))
    
    | (exfalso; simp at *; omega)
    
theorem cut_4 (m : Msg) (cut : Int) (b : List UInt8) (hb5 : b.length ≤ 50) (hn : ¬b = []) (F G : List UInt8) (hcut : -9223372036854775808 ≤ cut ∧ cut ≤ 9223372036854775807) (hf : F.length ≤ 21000) (hgreat : AC Try.prog 21 [.ag (eG m)] [] (fun v bs => v = B false ∧ bs = [])) (hp : AC Try.prog 23 [.ag (eG m)] [] (fun v bs' => v = .tu [bs none (F, (0 : Int)).1, I (F, (0 : Int)).2] ∧ bs' = [])) (hcat : AC Try.prog 31 [bss none [F, b]] [] (fun v bs' => v = bs none G ∧ bs' = [])) (hq : AC Try.prog 28 [bs none G] [] (fun v bs' => v = .tu [.ag (eG (msg0, (200 : Int)).1), I (msg0, (200 : Int)).2] ∧ bs' = [])) (hc2 : ¬ (0 < cut) ∨ ¬ (cut ≤ F.length)) :
    AC Try.prog 6 [.ag (eG m), I cut, bs none b] [] (fun v bs' => v = B true ∧ bs' = []) := by
  have hn0 : ((b.length : Int) == 0) = false := by have := List.length_pos_iff.2 hn; simp; exact hn
  refine AC.enter Try.func6 rfl rfl Try.ntmps6 (fl1_all rfl) (by (repeat' (first | exact Bk.nil | apply Bk.cons rfl rfl rfl))) ?_
  intro X
  simp only [nm, newS, plc, spl, bldA, bldS, zrow, chunks, ZC.val, Nat.reduceAdd, Nat.reduceSub, BEq.rfl]
  repeat' (first
    | ((first
    | ((with_reducible apply AP.k_any); first
             | (refine AP.sm false rfl ?_ ?_; focus ((repeat' (with_reducible apply And.intro)) <;> (first | exact True.intro | exact rfl | omega | (simp; omega) | (simp; done) | assumption | exact .inl rfl | (refine .inr ?_; simp; try omega))))
             | (refine AP.gyes rfl rfl rfl ?_; dsimp only) | (refine AP.gsplit rfl rfl rfl (fun hg => ?_) (fun hg => ?_))
      )
    | ((with_reducible apply AP.k_any); refine ap_callX rfl rfl (fn := 30) rfl (awake_ac) (by (repeat' (first | exact PasC.nil | apply PasC.nil | apply PasC.cons | apply PasV.leaf rfl | apply PasV.nl | apply PasV.bp rfl | apply PasV.lend rfl rfl rfl | apply PasV.lend rfl rfl (ro_B _) | apply PasV.lend rfl rfl (ro_M _) | apply PasV.lend rfl rfl (ro_E _ _) | apply PasV.lend rfl rfl (ro_I _) | apply PasV.mv rfl | apply PasV.ag | apply PasV.fn | exact PasV.fs | apply PasV.any))) rfl rfl ?_)
    | ((with_reducible apply AP.k_any); refine ap_callX rfl rfl (fn := 21) rfl (hgreat) (by (repeat' (first | exact PasC.nil | apply PasC.nil | apply PasC.cons | apply PasV.leaf rfl | apply PasV.nl | apply PasV.bp rfl | apply PasV.lend rfl rfl rfl | apply PasV.lend rfl rfl (ro_B _) | apply PasV.lend rfl rfl (ro_M _) | apply PasV.lend rfl rfl (ro_E _ _) | apply PasV.lend rfl rfl (ro_I _) | apply PasV.mv rfl | apply PasV.ag | apply PasV.fn | exact PasV.fs | apply PasV.any))) rfl rfl ?_)
    | ((with_reducible apply AP.k_any); refine ap_callX rfl rfl (fn := 23) rfl (hp) (by (repeat' (first | exact PasC.nil | apply PasC.nil | apply PasC.cons | apply PasV.leaf rfl | apply PasV.nl | apply PasV.bp rfl | apply PasV.lend rfl rfl rfl | apply PasV.lend rfl rfl (ro_B _) | apply PasV.lend rfl rfl (ro_M _) | apply PasV.lend rfl rfl (ro_E _ _) | apply PasV.lend rfl rfl (ro_I _) | apply PasV.mv rfl | apply PasV.ag | apply PasV.fn | exact PasV.fs | apply PasV.any))) rfl rfl ?_)
      | ((with_reducible apply AP.k_any); refine ap_callX rfl rfl (fn := 31) rfl (hcat) (by (repeat' (first | exact PasC.nil | apply PasC.nil | apply PasC.cons | apply PasV.leaf rfl | apply PasV.nl | apply PasV.bp rfl | apply PasV.lend rfl rfl rfl | apply PasV.lend rfl rfl (ro_B _) | apply PasV.lend rfl rfl (ro_M _) | apply PasV.lend rfl rfl (ro_E _ _) | apply PasV.lend rfl rfl (ro_I _) | apply PasV.mv rfl | apply PasV.ag | apply PasV.fn | exact PasV.fs | apply PasV.any))) rfl rfl ?_)
      | ((with_reducible apply AP.k_any); refine ap_callX rfl rfl (fn := 28) rfl (hq) (by (repeat' (first | exact PasC.nil | apply PasC.nil | apply PasC.cons | apply PasV.leaf rfl | apply PasV.nl | apply PasV.bp rfl | apply PasV.lend rfl rfl rfl | apply PasV.lend rfl rfl (ro_B _) | apply PasV.lend rfl rfl (ro_M _) | apply PasV.lend rfl rfl (ro_E _ _) | apply PasV.lend rfl rfl (ro_I _) | apply PasV.mv rfl | apply PasV.ag | apply PasV.fn | exact PasV.fs | apply PasV.any))) rfl rfl ?_)
      | ((with_reducible apply AP.k_any); refine AP.gh (gh_fz (b := 1) (u := 1) rfl rfl (by (repeat' (first | exact FzC.nil | apply FzC.cons | exact FzV.hd | apply FzV.ag | exact FzV.same))) (by (repeat' (first | exact FzB.nil | apply FzB.c | apply FzB.same | exact FzC.nil | apply FzC.cons | exact FzV.hd | apply FzV.ag | exact FzV.same)))) ?_; (try simp only [nm, newS, plc, spl, bldA, bldS, zrow, chunks, ZC.val, Nat.reduceAdd, Nat.reduceSub, BEq.rfl]); (try simp only [ro_B]))
    )
      <;> (try simp only [nm, newS, plc, spl, bldA, bldS, zrow, chunks, ZC.val, Nat.reduceAdd, Nat.reduceSub, BEq.rfl]))
    | ((with_reducible apply AP.k_nil); first
        | (refine AP.nil (hQ' _ ?_); clear hQ' Q')
        | refine AP.nil ?_)
    | ((with_reducible apply CP.k_reg); refine cp_regG fun Q' hQ' => ?_)
      | (with_reducible apply CP.k_reg1; refine cp_region ?_)
      | ((with_reducible apply CP.k_cond); first
          | refine cp_condT rfl ?_
          | refine cp_condF rfl ?_
          | refine cp_cond rfl (fun hc => ?_) (fun hc => ?_))
      | (with_reducible first | refine cp_block ?_ | refine cp_exit ?_ | refine cp_ret ?_ | refine cp_skip ?_ | refine cp_seq ?_ | refine inB_hit ?_ | refine inB_n ?_ | refine inB_r ?_ | refine thenQ_n ?_ | refine thenQ_r ?_ | refine thenQ_e ?_ | refine cpn_succ ?_)
      | (refine inB_miss rfl ?_)
      | (simp only [List.append_eq, List.cons_append, List.nil_append]))
  all_goals first
    | (apply RetQ.mk (ks := []) (by first | exact .inr rfl | exact .inl rfl) (by exact ⟨rfl, rfl⟩) <;> ((repeat' (first | exact RnV.leaf rfl | exact RnC.nil | apply RnC.cons | apply RnV.ag | apply RnV.tu | exact RnV.bp rfl | exact ResL.nil | apply ResL.cons (Res1.row rfl rfl rfl rfl rfl) | apply ResL.cons (Res1.flat rfl rfl rfl rfl rfl) | apply ResL.cons (Res1.tmp (by (try simp only [List.getD_cons_succ, List.getD_cons_zero]); exact rfl)) | exact ClsC.nil | exact ClsL.nil | apply ClsC.nl | apply ClsC.leaf rfl | apply ClsC.hd rfl | apply ClsC.fn | apply ClsR.tu | apply ClsL.cons | apply ClsV.ag | exact ClsV.bp | exact ClsV.one (ClsC.leaf rfl ClsC.nil) | exact ClsV.one (ClsC.nl ClsC.nil) | exact ClsV.one (ClsC.hd rfl ClsC.nil) | apply ClsR.one | exact Out.nil | apply Out.cons rfl | exact hks_of rfl)); done))
    | (apply RetQ.mk2 (ks := []) (by first | exact .inr rfl | exact .inl rfl); (iterate 5 (focus ((repeat' (first | exact RnV.leaf rfl | exact RnC.nil | apply RnC.cons | apply RnV.ag | apply RnV.tu | exact RnV.bp rfl | exact ResL.nil | apply ResL.cons (Res1.row rfl rfl rfl rfl rfl) | apply ResL.cons (Res1.flat rfl rfl rfl rfl rfl) | apply ResL.cons (Res1.tmp (by (try simp only [List.getD_cons_succ, List.getD_cons_zero]); exact rfl)) | exact ClsC.nil | exact ClsL.nil | apply ClsC.nl | apply ClsC.leaf rfl | apply ClsC.hd rfl | apply ClsC.fn | apply ClsR.tu | apply ClsL.cons | apply ClsV.ag | exact ClsV.bp | exact ClsV.one (ClsC.leaf rfl ClsC.nil) | exact ClsV.one (ClsC.nl ClsC.nil) | exact ClsV.one (ClsC.hd rfl ClsC.nil) | apply ClsR.one | exact Out.nil | apply Out.cons rfl | exact hks_of rfl)); done))); (try dsimp only [resV, List.getD_cons_succ, List.getD_cons_zero]); (exact ⟨congrArg B (by simp [hn]), rfl⟩))
    | (exfalso; simp at *; omega)
    
theorem cut_ac (m : Msg) (cut : Int) (b : List UInt8) (hs : m.small) (hr : rng m) (hb : b.length ≤ 100000000) (hcut : I64 cut) :
    AC Try.prog 6 [.ag (eG m), I cut, bs none b] [] (fun v bs' => v = B true ∧ bs' = []) := by
  have hgreat := great_ac m hs
  by_cases hgt : greatS m = true ∨ 50 < b.length
  · exact cut_0 m cut b hb hgreat hgt
  · have hg1 : greatS m = false := by simpa using fun h => hgt (.inl h)
    have hb5 : b.length ≤ 50 := by omega
    clear hgt
    rw [hg1] at hgreat
    have hp := (print_ac m hs).ro (r2 := .tu [bs none (printS m).1, I (printS m).2]) (by simp only [AV.ro, roC, ro_B])
    by_cases hm : mayM m = true
    · rw [printS, if_pos hm] at hp
      have hf := formM_len2 hm
      have hcat := (wcat_ac [formM m, b] (by simp) (by simp; omega)).ro (r2 := bs none (formM m ++ b)) (by simp only [AV.ro, ro_B, List.flatten_cons, List.flatten_nil, List.append_nil])
      have hq := parse_ac (formM m ++ b) (by rw [List.length_append]; omega)
      rw [parse_more hm hr (by rw [List.length_append]; omega)] at hq
      unfold I64 at hcut
      have hw : 0 ≤ cut → IntKind.i64.wrap (((formM m).length : Int) - cut) = ((formM m).length : Int) - cut := fun h => wrap_i64 (by omega) (by omega)
      have h1 := parse_ac ((formM m).take (IntKind.i64.wrap (((formM m).length : Int) - cut)).toNat) (by rw [List.length_take]; omega)
      have h2 : 0 < cut → cut ≤ (formM m).length → parseM ((formM m).take (IntKind.i64.wrap (((formM m).length : Int) - cut)).toNat) = (msg0, 200) := fun ha hb => by
        refine parse_cut hm hr (List.take_append_drop _ _).symm ?_
        rw [hw (by omega)]
        intro h
        have := congrArg List.length h
        simp at this; omega
      generalize formM m = F at hp hf hcat hq h1 h2 hw
      generalize F ++ b = G at hcat hq
      by_cases hc1 : 0 < cut ∧ cut ≤ F.length
      · rw [h2 hc1.1 hc1.2] at h1
        have hw := hw (by omega)
        have hwa : 0 ≤ IntKind.i64.wrap ((F.length : Int) - cut) ∧ IntKind.i64.wrap ((F.length : Int) - cut) ≤ (F.length : Int) := by omega
        have hwb : IntKind.i64.wrap ((F.length : Int) - cut) ≤ ((F.map eB).length : Int) := by simp; omega
        have hwc := hwa.1
        clear h2
        by_cases hn : b = []
        · subst hn
          rw [if_pos rfl] at hq
          exact cut_1 m cut F G hcut hf hgreat hp hcat h1 hq hc1
        · rw [if_neg hn] at hq
          have hn0 : ((b.length : Int) == 0) = false := by have := List.length_pos_iff.2 hn; simp; exact hn
          exact cut_2 m cut b hb5 hn F G hcut hf hgreat hp hcat h1 hq hc1
      · have hc2 : ¬ (0 < cut) ∨ ¬ (cut ≤ F.length) := by omega
        clear h1 h2 hw
        by_cases hn : b = []
        · subst hn
          rw [if_pos rfl] at hq
          exact cut_3 m cut F G hcut hf hgreat hp hcat hq hc2
        · rw [if_neg hn] at hq
          have hn0 : ((b.length : Int) == 0) = false := by have := List.length_pos_iff.2 hn; simp; exact hn
          exact cut_4 m cut b hb5 hn F G hcut hf hgreat hp hcat hq hc2
    · rw [printS, if_neg hm] at hp
      refine AC.enter Try.func6 rfl rfl Try.ntmps6 (fl1_all rfl) (by (repeat' (first | exact Bk.nil | apply Bk.cons rfl rfl rfl))) ?_
      intro X
      simp only [nm, newS, plc, spl, bldA, bldS, zrow, chunks, ZC.val, Nat.reduceAdd, Nat.reduceSub, BEq.rfl]
      repeat' (first
        | ((first
        | ((with_reducible apply AP.k_any); first
                 | (refine AP.sm false rfl ?_ ?_; focus ((repeat' (with_reducible apply And.intro)) <;> (first | exact True.intro | exact rfl | omega | (simp; omega) | (simp; done) | assumption | exact .inl rfl | (refine .inr ?_; simp; try omega))))
                 | (refine AP.gyes rfl rfl rfl ?_; dsimp only) | (refine AP.gsplit rfl rfl rfl (fun hg => ?_) (fun hg => ?_))
          )
        | ((with_reducible apply AP.k_any); refine ap_callX rfl rfl (fn := 30) rfl (awake_ac) (by (repeat' (first | exact PasC.nil | apply PasC.nil | apply PasC.cons | apply PasV.leaf rfl | apply PasV.nl | apply PasV.bp rfl | apply PasV.lend rfl rfl rfl | apply PasV.lend rfl rfl (ro_B _) | apply PasV.lend rfl rfl (ro_M _) | apply PasV.lend rfl rfl (ro_E _ _) | apply PasV.lend rfl rfl (ro_I _) | apply PasV.mv rfl | apply PasV.ag | apply PasV.fn | exact PasV.fs | apply PasV.any))) rfl rfl ?_)
            | ((with_reducible apply AP.k_any); refine ap_callX rfl rfl (fn := 21) rfl (hgreat) (by (repeat' (first | exact PasC.nil | apply PasC.nil | apply PasC.cons | apply PasV.leaf rfl | apply PasV.nl | apply PasV.bp rfl | apply PasV.lend rfl rfl rfl | apply PasV.lend rfl rfl (ro_B _) | apply PasV.lend rfl rfl (ro_M _) | apply PasV.lend rfl rfl (ro_E _ _) | apply PasV.lend rfl rfl (ro_I _) | apply PasV.mv rfl | apply PasV.ag | apply PasV.fn | exact PasV.fs | apply PasV.any))) rfl rfl ?_)
            | ((with_reducible apply AP.k_any); refine ap_callX rfl rfl (fn := 23) rfl (hp) (by (repeat' (first | exact PasC.nil | apply PasC.nil | apply PasC.cons | apply PasV.leaf rfl | apply PasV.nl | apply PasV.bp rfl | apply PasV.lend rfl rfl rfl | apply PasV.lend rfl rfl (ro_B _) | apply PasV.lend rfl rfl (ro_M _) | apply PasV.lend rfl rfl (ro_E _ _) | apply PasV.lend rfl rfl (ro_I _) | apply PasV.mv rfl | apply PasV.ag | apply PasV.fn | exact PasV.fs | apply PasV.any))) rfl rfl ?_)
        )
          <;> (try simp only [nm, newS, plc, spl, bldA, bldS, zrow, chunks, ZC.val, Nat.reduceAdd, Nat.reduceSub, BEq.rfl]))
        | ((with_reducible apply AP.k_nil); first
            | (refine AP.nil (hQ' _ ?_); clear hQ' Q')
            | refine AP.nil ?_)
        | ((with_reducible apply CP.k_reg); refine cp_regG fun Q' hQ' => ?_)
          | (with_reducible apply CP.k_reg1; refine cp_region ?_)
          | ((with_reducible apply CP.k_cond); first
              | refine cp_condT rfl ?_
              | refine cp_condF rfl ?_
              | refine cp_cond rfl (fun hc => ?_) (fun hc => ?_))
          | (with_reducible first | refine cp_block ?_ | refine cp_exit ?_ | refine cp_ret ?_ | refine cp_skip ?_ | refine cp_seq ?_ | refine inB_hit ?_ | refine inB_n ?_ | refine inB_r ?_ | refine thenQ_n ?_ | refine thenQ_r ?_ | refine thenQ_e ?_ | refine cpn_succ ?_)
          | (refine inB_miss rfl ?_)
          | (simp only [List.append_eq, List.cons_append, List.nil_append]))
      all_goals first
        | (apply RetQ.mk (ks := []) (by first | exact .inr rfl | exact .inl rfl) (by exact ⟨rfl, rfl⟩) <;> ((repeat' (first | exact RnV.leaf rfl | exact RnC.nil | apply RnC.cons | apply RnV.ag | apply RnV.tu | exact RnV.bp rfl | exact ResL.nil | apply ResL.cons (Res1.row rfl rfl rfl rfl rfl) | apply ResL.cons (Res1.flat rfl rfl rfl rfl rfl) | apply ResL.cons (Res1.tmp (by (try simp only [List.getD_cons_succ, List.getD_cons_zero]); exact rfl)) | exact ClsC.nil | exact ClsL.nil | apply ClsC.nl | apply ClsC.leaf rfl | apply ClsC.hd rfl | apply ClsC.fn | apply ClsR.tu | apply ClsL.cons | apply ClsV.ag | exact ClsV.bp | exact ClsV.one (ClsC.leaf rfl ClsC.nil) | exact ClsV.one (ClsC.nl ClsC.nil) | exact ClsV.one (ClsC.hd rfl ClsC.nil) | apply ClsR.one | exact Out.nil | apply Out.cons rfl | exact hks_of rfl)); done))
        
        | (exfalso; simp at *; omega)
        
end
set_option maxRecDepth 100000 in
theorem messageCut_lifted (os : Os) (started : os.Started) (H : Type) (enc : TypeId × Value → H) (F : Stop.Interp) :
    ReturnsInHanded {} Try.checked os 6 .any ((Rows.OpenSpec.upto Rows.messageCutSpec).pre6 enc Try.prog Try.f6 Rows.messageCutUptoRow.domain false) (((Rows.OpenSpec.upto Rows.messageCutSpec).at F).post enc Try.prog Try.f6 false true false false) := by
  refine returnsInHanded_of_cond (C := Try.checked) (s := Rows.OpenSpec.upto Rows.messageCutSpec) (k := Rows.uptoSmall) rfl own_knob started (by kernel_rfl) Try.func6
    (OpenSpec.witness (enc := enc) (C := Try.checked) (s := Rows.OpenSpec.upto Rows.messageCutSpec) (k := Rows.uptoSmall) rfl false ⟨#[], #[.agg #[.int .u8 0, .int .i64 0, .int .i64 0, .slice none 0 0, .int .i64 0, .int .i64 0, .slice none 0 0, .int .i64 0, .int .i64 0, .int .i64 0, .slice none 0 0, .int .i64 0], .int .i64 0, .slice none 0 0], []⟩ 8 (by kernel_rfl) (by kernel_rfl) (by kernel_rfl)
      (x := ([.agg [.lit (.int .u8 0), .lit (.int .i64 0), .lit (.int .i64 0), .nil, .lit (.int .i64 0), .lit (.int .i64 0), .nil, .lit (.int .i64 0), .lit (.int .i64 0), .agg [.lit (.int .i64 0), .nil], .lit (.int .i64 0)], .lit (.int .i64 0), .nil], [], [])) (by kernel_rfl) rfl (by kernel_rfl)) ?_
  intro W base args ds gs before hval0 hW _ hk _
  have hval : ∀ (j : Nat) t v, Try.f6.params[j]? = some t → args[j]? = some v → Value.okWide Try.prog W .any base t v := hval0
  have hW' := hW
  obtain ⟨p, q, hA0, hV, rfl, hfz, hnd⟩ := hW
  have hA : DataW.TrodAll enc Try.prog W 0 (fun _ => true) true Try.f6.params.toList args.toList ds p := hA0
  rw [Try.params6] at hA hval
  obtain ⟨rfl, rfl⟩ := trodVars_none hV
  have hb := bulk_of hk
  obtain ⟨v0, vs0, d0, ds0, p0, q0, hargs, rfl, rfl, h0, r0⟩ := trodAll_cons hA
  obtain ⟨v1, vs1, d1, ds1, p1, q1, rfl, rfl, rfl, h1, r1⟩ := trodAll_cons r0
  obtain ⟨v2, vs2, d2, ds2, p2, q2, rfl, rfl, rfl, h2, r2⟩ := trodAll_cons r1
  obtain ⟨rfl, rfl, rfl⟩ := trodAll_nil r2
  obtain rfl : args = #[v0, v1, v2] := by cases args; simp_all
  simp only [List.append_nil, Rows.uptoBulkAll, Nat.add_zero] at hb
  obtain ⟨m, hmk, hr0⟩ := arg_ag Try.underlying43 omg (hval 0 _ v0 rfl rfl) h0
  obtain ⟨ct, hct, hr1⟩ := arg_1 oi (cells_int Try.underlying3 (hval 1 _ v1 rfl rfl)) h1
  obtain ⟨b, hbk, hr2⟩ := arg_1 obs (cells_slice Try.underlying22 (hval 2 _ v2 rfl rfl)) h2
  have hb2 := hbk.2
  refine (ac_law (cut_ac m ct b (okG.small hmk (by omega)) hmk.1 (by omega) hct) (W := W) (vs := [v0, v1, v2]) fun φ κ => .cons (S := Ct.z) (T := Ct.z) (hr0 φ κ) (.cons (S := Ct.z) (T := Ct.z) (hr1 φ κ) (.cons (S := Ct.z) (T := Ct.z) (hr2 φ κ) .nil fun _ => rfl) fun _ => rfl) fun _ => rfl).mono fun e W' ⟨he, hb⟩ => ⟨_, he, ?_⟩
  exact law_post laidOut rfl (by kernel_rfl) Try.underlying4 (by kernel_rfl) hW' (fun gs' h => by subst h; rfl) hb
theorem messageCut_holds : Rows.MessageCutUptoSaid :=
  OpenClaim.holds_of_cond 6 Try.f6 rfl rfl rfl rfl rfl rfl rfl ⟨rfl, rfl, rfl, rfl, rfl⟩ rfl rfl rfl rfl rfl (by kernel_rfl) Try.func6 (by kernel_rfl)
    (of_decide_eq_true (by kernel_rfl)) (by unfold Func.isWrapper; first | (rw [if_pos (by decide +kernel)]; kernel_rfl) | (rw [if_neg (by decide +kernel)]; exact ⟨rfl, rfl⟩))
    (fun os started H enc _ F => messageCut_lifted os started H enc F)
#print axioms messageCut_holds
end Go.Proofs.Ytpdegeknhapgmaa
