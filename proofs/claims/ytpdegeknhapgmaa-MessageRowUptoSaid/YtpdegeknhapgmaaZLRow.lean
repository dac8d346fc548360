/-
  For every place, number and shift (of bulk at most 1048576) the law MessageRow returns true. No other condition.
-/
import Derived.Test.YtpdegeknhapgmaaZ1
import Derived.Test.YtpdegeknhapgmaaZ2
import Derived.Test.YtpdegeknhapgmaaZ3
import Derived.Test.YtpdegeknhapgmaaZ4
import Derived.Test.YtpdegeknhapgmaaZ5
import Derived.Test.YtpdegeknhapgmaaZ6
import Derived.Deep.CondSized
namespace Go.Proofs.Ytpdegeknhapgmaa
set_option linter.unusedVariables false
set_option linter.unusedSimpArgs false
set_option maxHeartbeats 8000000
open Go.RowKit Go.ChangeShapes Go.WideShapes Go.ChangeAt Go.Deep
set_option maxRecDepth 100000
/-- the cells of a row with a nil body -/
def rowC (f s : Int) (i : Nat) : List AV := [I (rowE f s i).pos, I 0, I 0, I 1, .sc (.slice none 0 0)]
theorem rowC_nl (f s : Int) : ∀ l : List Nat, NlE (l.map (rowC f s)) ((l.map (rowE f s)).map (eE none))
  | [] => .nil
  | _ :: l => .cons (.same (.same (.same (.same (.nl .nil))))) (rowC_nl f s l)
theorem rowN_nl (f s : Int) (n : Nat) : NlE ((List.range n).map (rowC f s)) ((rowN f s n).map (eE none)) := rowC_nl f s _
theorem row_ac (f n s : Int) (hf0 : I64 f) (hn0 : I64 n) (hs0 : I64 s) :
    AC Try.prog 7 [I f, I n, I s] [] (fun v bs' => v = B true ∧ bs' = []) := by
  unfold I64 at hf0 hn0 hs0
  by_cases hbad : f < 1 ∨ 1073741824 < f ∨ n < 0 ∨ 6 < n ∨ s < 0 ∨ 5 < s
  · refine AC.enter Try.func7 rfl rfl Try.ntmps7 (fl1_all rfl) (by (repeat' (first | exact Bk.nil | apply Bk.cons rfl rfl rfl))) ?_
    intro X
    simp only [nm, newS, plc, spl, bldA, bldS, zrow, chunks, ZC.val, Nat.reduceAdd, Nat.reduceSub, BEq.rfl]
    repeat' (first
      | ((first
      | ((with_reducible apply AP.k_any); first
               | (refine AP.sm false rfl ?_ ?_; focus ((repeat' (with_reducible apply And.intro)) <;> (first | exact True.intro | exact rfl | omega | (simp; omega) | (simp; done) | assumption | exact .inl rfl | (refine .inr ?_; simp; try omega))))
               | (refine AP.gyes rfl rfl rfl ?_; dsimp only) | (refine AP.gsplit rfl rfl rfl (fun hg => ?_) (fun hg => ?_))
        )
      | ((with_reducible apply AP.k_any); refine ap_callX rfl rfl (fn := 30) rfl (awake_ac) (by (repeat' (first | exact PasC.nil | apply PasC.nil | apply PasC.cons | apply PasV.leaf rfl | apply PasV.nl | apply PasV.bp rfl | apply PasV.lend rfl rfl rfl | apply PasV.lend rfl rfl (ro_B _) | apply PasV.lend rfl rfl (ro_M _) | apply PasV.lend rfl rfl (ro_E _ _) | apply PasV.lend rfl rfl (ro_I _) | apply PasV.mv rfl | apply PasV.ag | apply PasV.fn | exact PasV.fs | apply PasV.any))) rfl rfl ?_)
      )
        <;> (try simp only [nm, newS, plc, spl, bldA, bldS, zrow, chunks, ZC.val, Nat.reduceAdd, Nat.reduceSub, BEq.rfl]))
      | ((with_reducible apply AP.k_nil); first
          | (refine AP.nil (hQ' _ ?_); clear hQ' Q')
          | refine AP.nil ?_)
      | ((with_reducible apply CP.k_reg); refine cp_regG fun Q' hQ' => ?_)
        | (with_reducible apply CP.k_reg1; refine cp_region ?_)
        | ((with_reducible apply CP.k_cond); first
            | refine cp_condT rfl ?_
            | refine cp_condF rfl ?_
            | refine cp_cond rfl (fun hc => ?_) (fun hc => ?_))
        | (with_reducible first | refine cp_block ?_ | refine cp_exit ?_ | refine cp_ret ?_ | refine cp_skip ?_ | refine cp_seq ?_ | refine inB_hit ?_ | refine inB_n ?_ | refine inB_r ?_ | refine thenQ_n ?_ | refine thenQ_r ?_ | refine thenQ_e ?_ | refine cpn_succ ?_)
        | (refine inB_miss rfl ?_)
        | (simp only [List.append_eq, List.cons_append, List.nil_append]))
    all_goals first
      | (apply RetQ.mk (ks := []) (by first | exact .inr rfl | exact .inl rfl) (by exact ⟨rfl, rfl⟩) <;> ((repeat' (first | exact RnV.leaf rfl | exact RnC.nil | apply RnC.cons | apply RnV.ag | apply RnV.tu | exact RnV.bp rfl | exact ResL.nil | apply ResL.cons (Res1.row rfl rfl rfl rfl rfl) | apply ResL.cons (Res1.flat rfl rfl rfl rfl rfl) | apply ResL.cons (Res1.tmp (by (try simp only [List.getD_cons_succ, List.getD_cons_zero]); exact rfl)) | exact ClsC.nil | exact ClsL.nil | apply ClsC.nl | apply ClsC.leaf rfl | apply ClsC.hd rfl | apply ClsC.fn | apply ClsR.tu | apply ClsL.cons | apply ClsV.ag | exact ClsV.bp | exact ClsV.one (ClsC.leaf rfl ClsC.nil) | exact ClsV.one (ClsC.nl ClsC.nil) | exact ClsV.one (ClsC.hd rfl ClsC.nil) | apply ClsR.one | exact Out.nil | apply Out.cons rfl | exact hks_of rfl)); done))
      | (exfalso; simp at *; omega)
  · obtain ⟨N, rfl⟩ : ∃ N : Nat, n = N := ⟨n.toNat, by omega⟩
    have hN : N ≤ 6 := by omega
    have hmay := mayMsg_ac (rowM f s N) (by simp only [rowM, rowN_len]; omega) (by simp [rowM, msg0, cfg0])
    have hrow := row_may (f := f) (s := s) (n := N) (by omega) (by omega) hN
    generalize mayM (rowM f s N) = mm at hmay hrow
    refine AC.enter Try.func7 rfl rfl Try.ntmps7 (fl1_all rfl) (by (repeat' (first | exact Bk.nil | apply Bk.cons rfl rfl rfl))) ?_
    intro X
    simp only [nm, newS, plc, spl, bldA, bldS, zrow, chunks, ZC.val, Nat.reduceAdd, Nat.reduceSub, BEq.rfl]
    repeat' (first
      | ((first
      | ((with_reducible apply AP.k_any); first
               | (refine AP.sm false rfl ?_ ?_; focus ((repeat' (with_reducible apply And.intro)) <;> (first | exact True.intro | exact rfl | omega | (simp; omega) | (simp; done) | assumption | exact .inl rfl | (refine .inr ?_; simp; try omega))))
               | (refine AP.gyes rfl rfl rfl ?_; dsimp only) | (refine AP.gsplit rfl rfl rfl (fun hg => ?_) (fun hg => ?_))
        )
      | ((with_reducible apply AP.k_any); refine ap_callX rfl rfl (fn := 30) rfl (awake_ac) (by (repeat' (first | exact PasC.nil | apply PasC.nil | apply PasC.cons | apply PasV.leaf rfl | apply PasV.nl | apply PasV.bp rfl | apply PasV.lend rfl rfl rfl | apply PasV.lend rfl rfl (ro_B _) | apply PasV.lend rfl rfl (ro_M _) | apply PasV.lend rfl rfl (ro_E _ _) | apply PasV.lend rfl rfl (ro_I _) | apply PasV.mv rfl | apply PasV.ag | apply PasV.fn | exact PasV.fs | apply PasV.any))) rfl rfl ?_)
      )
        <;> (try simp only [nm, newS, plc, spl, bldA, bldS, zrow, chunks, ZC.val, Nat.reduceAdd, Nat.reduceSub, BEq.rfl]))
      | ((with_reducible apply AP.k_nil); first
          | (refine AP.nil (hQ' _ ?_); clear hQ' Q')
          | refine AP.nil ?_)
      | ((with_reducible apply CP.k_reg); refine cp_regG fun Q' hQ' => ?_)
        | (with_reducible apply CP.k_reg1; refine cp_region ?_)
        | ((with_reducible apply CP.k_cond); first
            | refine cp_condT rfl ?_
            | refine cp_condF rfl ?_
            | refine cp_cond rfl (fun hc => ?_) (fun hc => ?_))
        | (with_reducible first | refine cp_block ?_ | refine cp_exit ?_ | refine cp_ret ?_ | refine cp_skip ?_ | refine cp_seq ?_ | refine inB_hit ?_ | refine inB_n ?_ | refine inB_r ?_ | refine thenQ_n ?_ | refine thenQ_r ?_ | refine thenQ_e ?_ | refine cpn_succ ?_)
        | (refine inB_miss rfl ?_)
        | (simp only [List.append_eq, List.cons_append, List.nil_append]))
    all_goals try (exfalso; simp at *; omega)
    refine CP.gh (gh_nilc (j := 0) (u := 1) (off := 6) (e := tE) (k := 5) rfl rfl) ?_
    simp only [nm, newS, plc, spl, bldA, bldS, zrow, chunks, ZC.val, Nat.reduceAdd, Nat.reduceSub, BEq.rfl]
    refine CP.gh gh_slot ?_; simp only [nm, newS, plc, spl, bldA, bldS, zrow, chunks, ZC.val, Nat.reduceAdd, Nat.reduceSub, BEq.rfl]
    refine CP.gh gh_slot ?_; simp only [nm, newS, plc, spl, bldA, bldS, zrow, chunks, ZC.val, Nat.reduceAdd, Nat.reduceSub, BEq.rfl]
    refine cp_loopS [8, 9, 37, 38, 39, 40, 41, 42, 43, 44, 45, 46, 47, 48, 49, 50, 51, 52, 53, 54, 55, 56] (fun a : Nat × Nat × Nat × Nat => N - a.1) (fun a => a.1 ≤ N) (fun a => [(8, I a.1)]) (fun a => [(0, ⟨1, eZ 2 0 0 nl 0 f (.hd 1 a.2.1) 0 0 0 nl 0⟩), (1, ⟨a.2.1, .r tE 5 ((List.range a.1).map (rowC f s))⟩), (2, ⟨a.2.2.1, .x⟩), (3, ⟨a.2.2.2, .x⟩)]) (0, 1, 0, 0) (Nat.zero_le _) (by (refine gh_wk ?_; (try simp only [setT, deT, setB, List.set_cons_succ, List.set_cons_zero]); (refine ⟨?_, ?_⟩ <;> (try dsimp only) <;> (repeat' (first | exact Wk.nil | exact WkB.nil | apply Wk.same | apply Wk.de | apply Wk.nl | apply WkB.same | apply WkB.drop))))) ?_
    rintro ⟨i, u, v, t⟩ hk
    simp only [setT, deT, setB, List.set_cons_succ, List.set_cons_zero]
    dsimp only at hk
    by_cases hlt : i < N
    · have hw : IntKind.i64.wrap ((i : Int) + 1) = ((i + 1 : Nat) : Int) := wrap_i64 (by omega) (by omega)
      have hwp : IntKind.i64.wrap (f + (i : Int)) = f + i := wrap_i64 (by omega) (by omega)
      have hlen : ((List.range i).map (rowC f s)).length + 1 ≤ 1000000000 := by simp; omega
      repeat' (first
        | ((first
        | ((with_reducible apply AP.k_any); first
                 | (refine AP.sm false rfl ?_ ?_; focus ((repeat' (with_reducible apply And.intro)) <;> (first | exact True.intro | exact rfl | omega | (simp; omega) | (simp; done) | assumption | exact .inl rfl | (refine .inr ?_; simp; try omega))))
                 | (refine AP.gyes rfl rfl rfl ?_; dsimp only) | (refine AP.gsplit rfl rfl rfl (fun hg => ?_) (fun hg => ?_))
          )
        
        )
          <;> (try simp only [nm, newS, plc, spl, bldA, bldS, zrow, chunks, ZC.val, Nat.reduceAdd, Nat.reduceSub, BEq.rfl]))
        | ((with_reducible apply AP.k_nil); first
            | (refine AP.nil (hQ' _ ?_); clear hQ' Q')
            | refine AP.nil ?_)
        | ((with_reducible apply CP.k_reg); refine cp_regG fun Q' hQ' => ?_)
          | (with_reducible apply CP.k_reg1; refine cp_region ?_)
          | ((with_reducible apply CP.k_cond); first
              | refine cp_condT rfl ?_
              | refine cp_condF rfl ?_
              | refine cp_cond rfl (fun hc => ?_) (fun hc => ?_))
          | (with_reducible first | refine cp_block ?_ | refine cp_exit ?_ | refine cp_ret ?_ | refine cp_skip ?_ | refine cp_seq ?_ | refine inB_hit ?_ | refine inB_n ?_ | refine inB_r ?_ | refine thenQ_n ?_ | refine thenQ_r ?_ | refine thenQ_e ?_ | refine cpn_succ ?_)
          | (refine inB_miss rfl ?_)
          | (simp only [List.append_eq, List.cons_append, List.nil_append]))
      all_goals first
        | (exfalso; simp at *; omega)
        | (simp only [hw]; refine ⟨(i + 1, u + 1, v + 1, t + 1), by (dsimp only; omega), by (dsimp only; omega), ?_⟩; dsimp only; rw [List.range_succ, List.map_append, List.map_cons, List.map_nil]; (first | rw [show rowC f s i = [I f, I 0, I 0, I 1, nl] by simp only [beq_iff_eq] at hc; simp only [rowC, rowE, hc, if_true]] | rw [show rowC f s i = [I (IntKind.i64.wrap (f + i)), I 0, I 0, I 1, nl] by rw [hwp]; simp only [beq_eq_false_iff_ne] at hc; simp only [rowC, rowE, if_neg hc]]); (refine gh_wk ?_; (try simp only [setT, deT, setB, List.set_cons_succ, List.set_cons_zero]); (refine ⟨?_, ?_⟩ <;> (try dsimp only) <;> (repeat' (first | exact Wk.nil | exact WkB.nil | apply Wk.same | apply Wk.de | apply Wk.nl | apply WkB.same | apply WkB.drop)))))
    · obtain rfl : i = N := by omega
      refine CP.gh (gh_rows (n := 1) rfl (rowN_nl f s i)) ?_
      simp only [nm, newS, plc, spl, bldA, bldS, zrow, chunks, ZC.val, Nat.reduceAdd, Nat.reduceSub, BEq.rfl]
      refine CP.gh (gh_fz (b := 1) (u := u) rfl rfl (by (repeat' (first | exact FzC.nil | apply FzC.cons | exact FzV.hd | apply FzV.ag | exact FzV.same))) (by (repeat' (first | exact FzB.nil | apply FzB.c | apply FzB.same | exact FzC.nil | apply FzC.cons | exact FzV.hd | apply FzV.ag | exact FzV.same)))) ?_
      simp only [ro_E]
      repeat' (first
        | ((first
        | ((with_reducible apply AP.k_any); first
                 | (refine AP.sm false rfl ?_ ?_; focus ((repeat' (with_reducible apply And.intro)) <;> (first | exact True.intro | exact rfl | omega | (simp; omega) | (simp; done) | assumption | exact .inl rfl | (refine .inr ?_; simp; try omega))))
                 | (refine AP.gyes rfl rfl rfl ?_; dsimp only) | (refine AP.gsplit rfl rfl rfl (fun hg => ?_) (fun hg => ?_))
          )
        | ((with_reducible apply AP.k_any); refine ap_callX rfl rfl (fn := 24) rfl (hmay) (by (repeat' (first | exact PasC.nil | apply PasC.nil | apply PasC.cons | apply PasV.leaf rfl | apply PasV.nl | apply PasV.bp rfl | apply PasV.lend rfl rfl rfl | apply PasV.lend rfl rfl (ro_B _) | apply PasV.lend rfl rfl (ro_M _) | apply PasV.lend rfl rfl (ro_E _ _) | apply PasV.lend rfl rfl (ro_I _) | apply PasV.mv rfl | apply PasV.ag | apply PasV.fn | exact PasV.fs | apply PasV.any))) rfl rfl ?_)
        )
          <;> (try simp only [nm, newS, plc, spl, bldA, bldS, zrow, chunks, ZC.val, Nat.reduceAdd, Nat.reduceSub, BEq.rfl]))
        | ((with_reducible apply AP.k_nil); first
            | (refine AP.nil (hQ' _ ?_); clear hQ' Q')
            | refine AP.nil ?_)
        | ((with_reducible apply CP.k_reg); refine cp_regG fun Q' hQ' => ?_)
          | (with_reducible apply CP.k_reg1; refine cp_region ?_)
          | ((with_reducible apply CP.k_cond); first
              | refine cp_condT rfl ?_
              | refine cp_condF rfl ?_
              | refine cp_cond rfl (fun hc => ?_) (fun hc => ?_))
          | (with_reducible first | refine cp_block ?_ | refine cp_exit ?_ | refine cp_ret ?_ | refine cp_skip ?_ | refine cp_seq ?_ | refine inB_hit ?_ | refine inB_n ?_ | refine inB_r ?_ | refine thenQ_n ?_ | refine thenQ_r ?_ | refine thenQ_e ?_ | refine cpn_succ ?_)
          | (refine inB_miss rfl ?_)
          | (simp only [List.append_eq, List.cons_append, List.nil_append]))
      all_goals first
        | (exfalso; simp at *; done)
        | (exfalso; simp at *; omega)
        | (apply RetQ.mk2 (ks := []) (by first | exact .inr rfl | exact .inl rfl); (iterate 5 (focus ((repeat' (first | exact RnV.leaf rfl | exact RnC.nil | apply RnC.cons | apply RnV.ag | apply RnV.tu | exact RnV.bp rfl | exact ResL.nil | apply ResL.cons (Res1.row rfl rfl rfl rfl rfl) | apply ResL.cons (Res1.flat rfl rfl rfl rfl rfl) | apply ResL.cons (Res1.tmp (by (try simp only [List.getD_cons_succ, List.getD_cons_zero]); exact rfl)) | exact ClsC.nil | exact ClsL.nil | apply ClsC.nl | apply ClsC.leaf rfl | apply ClsC.hd rfl | apply ClsC.fn | apply ClsR.tu | apply ClsL.cons | apply ClsV.ag | exact ClsV.bp | exact ClsV.one (ClsC.leaf rfl ClsC.nil) | exact ClsV.one (ClsC.nl ClsC.nil) | exact ClsV.one (ClsC.hd rfl ClsC.nil) | apply ClsR.one | exact Out.nil | apply Out.cons rfl | exact hks_of rfl)); done))); (try dsimp only [resV, List.getD_cons_succ, List.getD_cons_zero]); ((refine ⟨congrArg B ?_, rfl⟩; clear hmay; cases mm <;> simp_all <;> omega)))
set_option maxRecDepth 100000 in
theorem messageRow_lifted (os : Os) (started : os.Started) (H : Type) (enc : TypeId × Value → H) (F : Stop.Interp) :
    ReturnsInHanded {} Try.checked os 7 .any ((Rows.OpenSpec.upto Rows.messageRowSpec).pre6 enc Try.prog Try.f7 Rows.messageRowUptoRow.domain false) (((Rows.OpenSpec.upto Rows.messageRowSpec).at F).post enc Try.prog Try.f7 false true false false) := by
  refine returnsInHanded_of_cond (C := Try.checked) (s := Rows.OpenSpec.upto Rows.messageRowSpec) (k := Rows.uptoSmall) rfl own_knob started (by kernel_rfl) Try.func7
    (OpenSpec.witness (enc := enc) (C := Try.checked) (s := Rows.OpenSpec.upto Rows.messageRowSpec) (k := Rows.uptoSmall) rfl false ⟨#[], #[.int .i64 0, .int .i64 0, .int .i64 0], []⟩ 8 (by kernel_rfl) (by kernel_rfl) (by kernel_rfl)
      (x := ([.lit (.int .i64 0), .lit (.int .i64 0), .lit (.int .i64 0)], [], [])) (by kernel_rfl) rfl (by kernel_rfl)) ?_
  intro W base args ds gs before hval0 hW _ hk _
  have hval : ∀ (j : Nat) t v, Try.f7.params[j]? = some t → args[j]? = some v → Value.okWide Try.prog W .any base t v := hval0
  have hW' := hW
  obtain ⟨p, q, hA0, hV, rfl, hfz, hnd⟩ := hW
  have hA : DataW.TrodAll enc Try.prog W 0 (fun _ => true) true Try.f7.params.toList args.toList ds p := hA0
  rw [Try.params7] at hA hval
  obtain ⟨rfl, rfl⟩ := trodVars_none hV
  have hb := bulk_of hk
  obtain ⟨v0, vs0, d0, ds0, p0, q0, hargs, rfl, rfl, h0, r0⟩ := trodAll_cons hA
  obtain ⟨v1, vs1, d1, ds1, p1, q1, rfl, rfl, rfl, h1, r1⟩ := trodAll_cons r0
  obtain ⟨v2, vs2, d2, ds2, p2, q2, rfl, rfl, rfl, h2, r2⟩ := trodAll_cons r1
  obtain ⟨rfl, rfl, rfl⟩ := trodAll_nil r2
  obtain rfl : args = #[v0, v1, v2] := by cases args; simp_all
  simp only [List.append_nil, Rows.uptoBulkAll, Nat.add_zero] at hb
  obtain ⟨f, hf, hr0⟩ := arg_1 oi (cells_int Try.underlying3 (hval 0 _ v0 rfl rfl)) h0
  obtain ⟨n, hn, hr1⟩ := arg_1 oi (cells_int Try.underlying3 (hval 1 _ v1 rfl rfl)) h1
  obtain ⟨s, hs, hr2⟩ := arg_1 oi (cells_int Try.underlying3 (hval 2 _ v2 rfl rfl)) h2
  refine (ac_law (row_ac f n s hf hn hs) (W := W) (vs := [v0, v1, v2]) fun φ κ => .cons (S := Ct.z) (T := Ct.z) (hr0 φ κ) (.cons (S := Ct.z) (T := Ct.z) (hr1 φ κ) (.cons (S := Ct.z) (T := Ct.z) (hr2 φ κ) .nil fun _ => rfl) fun _ => rfl) fun _ => rfl).mono fun e W' ⟨he, hb⟩ => ⟨_, he, ?_⟩
  exact law_post laidOut rfl (by kernel_rfl) Try.underlying4 (by kernel_rfl) hW' (fun gs' h => by subst h; rfl) hb
theorem messageRow_holds : Rows.MessageRowUptoSaid :=
  OpenClaim.holds_of_cond 7 Try.f7 rfl rfl rfl rfl rfl rfl rfl ⟨rfl, rfl, rfl, rfl, rfl⟩ rfl rfl rfl rfl rfl (by kernel_rfl) Try.func7 (by kernel_rfl)
    (of_decide_eq_true (by kernel_rfl)) (by unfold Func.isWrapper; first | (rw [if_pos (by decide +kernel)]; kernel_rfl) | (rw [if_neg (by decide +kernel)]; exact ⟨rfl, rfl⟩))
    (fun os started H enc _ F => messageRow_lifted os started H enc F)
#print axioms messageRow_holds
end Go.Proofs.Ytpdegeknhapgmaa
