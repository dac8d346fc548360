/-
  The document's entries, configurations, read.
-/
import Derived.Test.YtkdbedbefojieaaV9
import Derived.Test.YtkdbedbefojieaaW14
namespace Go.Proofs.Ytkdbedbefojieaa
set_option linter.unusedVariables false
set_option linter.unusedSimpArgs false
set_option maxHeartbeats 8000000
open Go.RowKit
set_option maxRecDepth 100000
def restRF (pos : Int) (s : Rf) : Entry × Rf :=
  (⟨pos, (intF s).1, (intF (intF s).2).1, (intF (intF (intF s).2).2).1, (bytesF (intF (intF (intF s).2).2).2).1⟩, (bytesF (intF (intF (intF s).2).2).2).2)
def entryRF (s : Rf) : Entry × Rf := restRF (intF s).1 (intF s).2
def memRF (s : Rf) : Member × Rf := (⟨(intF s).1, (intF (intF s).2).1, (flagF (intF (intF s).2).2).1⟩, (flagF (intF (intF s).2).2).2)
def memsRF : Nat → Rf → List Member × Rf
  | 0, s => ([], s)
  | n + 1, s => ((memRF s).1 :: (memsRF n (memRF s).2).1, (memsRF n (memRF s).2).2)
def configRF (s : Rf) : Config × Rf :=
  (⟨(intF s).1, (memsRF (countF 5 (intF s).2).1.toNat (countF 5 (intF s).2).2).1⟩, (memsRF (countF 5 (intF s).2).1.toNat (countF 5 (intF s).2).2).2)
theorem sim_rest (pos : Int) : Sim (restRF pos) (restR pos) := fun s hs => by
  obtain ⟨a1, a2, a3⟩ := sim_int s hs
  obtain ⟨b1, b2, b3⟩ := sim_int _ a3
  obtain ⟨c1, c2, c3⟩ := sim_int _ b3
  obtain ⟨d1, d2, d3⟩ := sim_bytes _ c3
  unfold restRF restR
  refine ⟨?_, ?_, d3⟩
  · dsimp only
    rw [a1, b1, a2, c1, b2, a2, d1, c2, b2, a2]
  · dsimp only
    rw [d2, c2, b2, a2]
theorem sim_entry : Sim entryRF entryR := fun s hs => by
  obtain ⟨a1, a2, a3⟩ := sim_int s hs
  obtain ⟨b1, b2, b3⟩ := sim_rest (intF s).1 _ a3
  unfold entryRF entryR
  rw [a1, a2] at b1 b2
  refine ⟨?_, ?_, b3⟩
  · rw [a1]; exact b1
  · rw [a1]; exact b2
theorem sim_mem : Sim memRF memR := fun s hs => by
  obtain ⟨a1, a2, a3⟩ := sim_int s hs
  obtain ⟨b1, b2, b3⟩ := sim_int _ a3
  obtain ⟨c1, c2, c3⟩ := sim_flag _ b3
  unfold memRF memR
  refine ⟨?_, ?_, c3⟩
  · dsimp only
    rw [a1, b1, a2, c1, b2, a2]
  · dsimp only
    rw [c2, b2, a2]
theorem sim_mems : ∀ n, Sim (memsRF n) (memsR n)
  | 0 => fun _ hs => ⟨rfl, rfl, hs⟩
  | n + 1 => fun s hs => by
    obtain ⟨a1, a2, a3⟩ := sim_mem s hs
    obtain ⟨b1, b2, b3⟩ := sim_mems n _ a3
    unfold memsRF memsR
    refine ⟨?_, ?_, b3⟩
    · dsimp only
      rw [a1, b1, a2]
    · dsimp only
      rw [b2, a2]
theorem sim_config : Sim configRF configR := fun s hs => by
  obtain ⟨a1, a2, a3⟩ := sim_int s hs
  obtain ⟨b1, b2, b3⟩ := sim_count 5 _ a3
  obtain ⟨c1, c2, c3⟩ := sim_mems (countF 5 (intF s).2).1.toNat _ b3
  unfold configRF configR
  refine ⟨?_, ?_, c3⟩
  · dsimp only
    rw [c1, a1, b1, b2, a2]
  · dsimp only
    rw [c2, b1, b2, a2]
theorem memsRF_snoc : ∀ (n : Nat) (s : Rf), (memsRF (n + 1) s).1 = (memsRF n s).1 ++ [(memRF (memsRF n s).2).1] ∧ (memsRF (n + 1) s).2 = (memRF (memsRF n s).2).2
  | 0, s => ⟨rfl, rfl⟩
  | n + 1, s => by
    have h := memsRF_snoc n (memRF s).2
    exact ⟨by show (memRF s).1 :: (memsRF (n + 1) (memRF s).2).1 = _; rw [h.1]; rfl, h.2⟩
theorem memsRF_len : ∀ (n : Nat) (s : Rf), (memsRF n s).1.length = n
  | 0, _ => rfl
  | n + 1, s => by show (_ :: _).length = _; rw [List.length_cons, memsRF_len n]
theorem dtakeRest_ac (pos : Int) (s : Rf) (hs : s.ok) : AC Try.prog 112 [.bp 0 0 0, I pos] [fB s] (fun v bs => v = .ag (eE none (restRF pos s).1) ∧ bs = [fB (restRF pos s).2]) := by
  have h1 := (sim_int s hs).2.2
  have h2 := (sim_int _ h1).2.2
  have h3 := (sim_int _ h2).2.2
  refine AC.enter Try.func112 rfl rfl Try.ntmps112 (fl1_all rfl) (by (repeat' (first | exact Bk.nil | apply Bk.cons rfl rfl rfl))) ?_
  intro X
  simp only [nm, newS, plc, spl, bldA, bldS, zrow, chunks, ZC.val, Nat.reduceAdd, Nat.reduceSub, BEq.rfl]
  repeat' (first
    | ((first
    | ((with_reducible apply AP.k_any); first
             | (refine AP.s1 rfl ?_ ?_; focus ((repeat' (with_reducible apply And.intro)) <;> (first | exact True.intro | exact rfl | omega | (simp; omega) | (simp; done) | assumption)))
             | refine ap_alloc rfl rfl rfl rfl ?_
             | refine ap_store rfl rfl rfl rfl rfl rfl rfl rfl rfl ?_
      )
    | ((with_reducible apply AP.k_any); refine ap_callB 0 [(0, 0)] rfl rfl (fn := 126) rfl (dbytesR_ac _ h3) (by (repeat' (first | exact PasC.nil | apply PasC.nil | apply PasC.cons | apply PasV.leaf rfl | apply PasV.nl | apply PasV.bp rfl | apply PasV.lend rfl rfl rfl | apply PasV.lend rfl rfl (ro_B _) | apply PasV.lend rfl rfl (ro_M _) | apply PasV.lend rfl rfl (ro_E _ _) | apply PasV.lend rfl rfl (ro_I _) | apply PasV.mv rfl | apply PasV.ag | apply PasV.fn | exact PasV.fs | apply PasV.any))) (by (repeat' (first | exact Out.nil | apply Out.cons rfl | exact ClsC.nil | apply ClsC.nl | apply ClsC.leaf rfl | apply ClsC.hd rfl | apply ClsC.fn | apply ClsC.fz rfl (ro_B _) | apply ClsC.fz rfl (ro_M _) | apply ClsC.fz rfl (ro_E _ _) | apply ClsC.fz rfl rfl))) rfl (by (repeat' (first | exact Bk.nil | apply Bk.cons rfl rfl rfl))) (by (repeat' (first | exact RnV.leaf rfl | exact RnC.nil | apply RnC.cons | apply RnV.ag | apply RnV.tu | exact RnV.bp rfl))) rfl ?_)
    | ((with_reducible apply AP.k_any); refine ap_callB 0 [(0, 0)] rfl rfl (fn := 73) rfl (dintR_ac (intF (intF s).2).2 h2) (by (repeat' (first | exact PasC.nil | apply PasC.nil | apply PasC.cons | apply PasV.leaf rfl | apply PasV.nl | apply PasV.bp rfl | apply PasV.lend rfl rfl rfl | apply PasV.lend rfl rfl (ro_B _) | apply PasV.lend rfl rfl (ro_M _) | apply PasV.lend rfl rfl (ro_E _ _) | apply PasV.lend rfl rfl (ro_I _) | apply PasV.mv rfl | apply PasV.ag | apply PasV.fn | exact PasV.fs | apply PasV.any))) (by (repeat' (first | exact Out.nil | apply Out.cons rfl | exact ClsC.nil | apply ClsC.nl | apply ClsC.leaf rfl | apply ClsC.hd rfl | apply ClsC.fn | apply ClsC.fz rfl (ro_B _) | apply ClsC.fz rfl (ro_M _) | apply ClsC.fz rfl (ro_E _ _) | apply ClsC.fz rfl rfl))) rfl (by (repeat' (first | exact Bk.nil | apply Bk.cons rfl rfl rfl))) (by (repeat' (first | exact RnV.leaf rfl | exact RnC.nil | apply RnC.cons | apply RnV.ag | apply RnV.tu | exact RnV.bp rfl))) rfl ?_)
    | ((with_reducible apply AP.k_any); refine ap_callB 0 [(0, 0)] rfl rfl (fn := 73) rfl (dintR_ac (intF s).2 h1) (by (repeat' (first | exact PasC.nil | apply PasC.nil | apply PasC.cons | apply PasV.leaf rfl | apply PasV.nl | apply PasV.bp rfl | apply PasV.lend rfl rfl rfl | apply PasV.lend rfl rfl (ro_B _) | apply PasV.lend rfl rfl (ro_M _) | apply PasV.lend rfl rfl (ro_E _ _) | apply PasV.lend rfl rfl (ro_I _) | apply PasV.mv rfl | apply PasV.ag | apply PasV.fn | exact PasV.fs | apply PasV.any))) (by (repeat' (first | exact Out.nil | apply Out.cons rfl | exact ClsC.nil | apply ClsC.nl | apply ClsC.leaf rfl | apply ClsC.hd rfl | apply ClsC.fn | apply ClsC.fz rfl (ro_B _) | apply ClsC.fz rfl (ro_M _) | apply ClsC.fz rfl (ro_E _ _) | apply ClsC.fz rfl rfl))) rfl (by (repeat' (first | exact Bk.nil | apply Bk.cons rfl rfl rfl))) (by (repeat' (first | exact RnV.leaf rfl | exact RnC.nil | apply RnC.cons | apply RnV.ag | apply RnV.tu | exact RnV.bp rfl))) rfl ?_)
    | ((with_reducible apply AP.k_any); refine ap_callB 0 [(0, 0)] rfl rfl (fn := 73) rfl (dintR_ac s hs) (by (repeat' (first | exact PasC.nil | apply PasC.nil | apply PasC.cons | apply PasV.leaf rfl | apply PasV.nl | apply PasV.bp rfl | apply PasV.lend rfl rfl rfl | apply PasV.lend rfl rfl (ro_B _) | apply PasV.lend rfl rfl (ro_M _) | apply PasV.lend rfl rfl (ro_E _ _) | apply PasV.lend rfl rfl (ro_I _) | apply PasV.mv rfl | apply PasV.ag | apply PasV.fn | exact PasV.fs | apply PasV.any))) (by (repeat' (first | exact Out.nil | apply Out.cons rfl | exact ClsC.nil | apply ClsC.nl | apply ClsC.leaf rfl | apply ClsC.hd rfl | apply ClsC.fn | apply ClsC.fz rfl (ro_B _) | apply ClsC.fz rfl (ro_M _) | apply ClsC.fz rfl (ro_E _ _) | apply ClsC.fz rfl rfl))) rfl (by (repeat' (first | exact Bk.nil | apply Bk.cons rfl rfl rfl))) (by (repeat' (first | exact RnV.leaf rfl | exact RnC.nil | apply RnC.cons | apply RnV.ag | apply RnV.tu | exact RnV.bp rfl))) rfl ?_)
    )
      <;> (try simp only [nm, newS, plc, spl, bldA, bldS, zrow, chunks, ZC.val, Nat.reduceAdd, Nat.reduceSub, BEq.rfl]))
    | ((with_reducible apply AP.k_nil); first
        | (refine AP.nil (hQ' _ ?_); clear hQ' Q')
        | refine AP.nil ?_)
    | ((with_reducible apply CP.k_reg); refine cp_regG fun Q' hQ' => ?_)
      | (with_reducible apply CP.k_reg1; refine cp_region ?_)
      | ((with_reducible apply CP.k_cond); first
          | refine cp_condT rfl ?_
          | refine cp_condF rfl ?_
          | refine cp_cond rfl (fun hc => ?_) (fun hc => ?_))
      | (with_reducible first | refine cp_block ?_ | refine cp_exit ?_ | refine cp_ret ?_ | refine cp_skip ?_ | refine cp_seq ?_ | refine inB_hit ?_ | refine inB_n ?_ | refine inB_r ?_ | refine thenQ_n ?_ | refine thenQ_r ?_ | refine thenQ_e ?_ | refine cpn_succ ?_)
      | (refine inB_miss rfl ?_))
  apply RetQ.mk (ks := [(0, 0)]) (by first | exact .inr rfl | exact .inl rfl) (by exact ⟨rfl, rfl⟩)
  · (repeat' (first | exact RnV.leaf rfl | exact RnC.nil | apply RnC.cons | apply RnV.ag | apply RnV.tu | exact RnV.bp rfl))
  · (repeat' (first | exact ResL.nil | apply ResL.cons (Res1.row rfl rfl rfl rfl rfl) | apply ResL.cons (Res1.flat rfl rfl rfl rfl rfl) | apply ResL.cons (Res1.tmp (by (try simp only [List.getD_cons_succ, List.getD_cons_zero]); exact rfl))))
  · (repeat' (first | exact ClsC.nil | exact ClsL.nil | apply ClsC.nl | apply ClsC.leaf rfl | apply ClsC.hd rfl | apply ClsC.fn | apply ClsR.tu | apply ClsL.cons | apply ClsV.ag | exact ClsV.bp | exact ClsV.one (ClsC.leaf rfl ClsC.nil) | exact ClsV.one (ClsC.nl ClsC.nil) | exact ClsV.one (ClsC.hd rfl ClsC.nil) | apply ClsR.one))
  · (repeat' (first | exact Out.nil | apply Out.cons rfl | exact ClsC.nil | apply ClsC.nl | apply ClsC.leaf rfl | apply ClsC.hd rfl | apply ClsC.fn | apply ClsC.fz rfl (ro_B _) | apply ClsC.fz rfl (ro_M _) | apply ClsC.fz rfl (ro_E _ _) | apply ClsC.fz rfl rfl))
  · exact hks_of rfl
theorem dtakeEntry_ac (s : Rf) (hs : s.ok) : AC Try.prog 75 [.bp 0 0 0] [fB s] (fun v bs => v = .ag (eE none (entryRF s).1) ∧ bs = [fB (entryRF s).2]) := by
  have h1 := (sim_int s hs).2.2
  refine AC.enter Try.func75 rfl rfl Try.ntmps75 (fl1_all rfl) (by (repeat' (first | exact Bk.nil | apply Bk.cons rfl rfl rfl))) ?_
  intro X
  simp only [nm, newS, plc, spl, bldA, bldS, zrow, chunks, ZC.val, Nat.reduceAdd, Nat.reduceSub, BEq.rfl]
  repeat' (first
    | ((first
    | ((with_reducible apply AP.k_any); first
             | (refine AP.s1 rfl ?_ ?_; focus ((repeat' (with_reducible apply And.intro)) <;> (first | exact True.intro | exact rfl | omega | (simp; omega) | (simp; done) | assumption)))
             | refine ap_alloc rfl rfl rfl rfl ?_
             | refine ap_store rfl rfl rfl rfl rfl rfl rfl rfl rfl ?_
      )
    | ((with_reducible apply AP.k_any); refine ap_callB 0 [(0, 0)] rfl rfl (fn := 73) rfl (dintR_ac s hs) (by (repeat' (first | exact PasC.nil | apply PasC.nil | apply PasC.cons | apply PasV.leaf rfl | apply PasV.nl | apply PasV.bp rfl | apply PasV.lend rfl rfl rfl | apply PasV.lend rfl rfl (ro_B _) | apply PasV.lend rfl rfl (ro_M _) | apply PasV.lend rfl rfl (ro_E _ _) | apply PasV.lend rfl rfl (ro_I _) | apply PasV.mv rfl | apply PasV.ag | apply PasV.fn | exact PasV.fs | apply PasV.any))) (by (repeat' (first | exact Out.nil | apply Out.cons rfl | exact ClsC.nil | apply ClsC.nl | apply ClsC.leaf rfl | apply ClsC.hd rfl | apply ClsC.fn | apply ClsC.fz rfl (ro_B _) | apply ClsC.fz rfl (ro_M _) | apply ClsC.fz rfl (ro_E _ _) | apply ClsC.fz rfl rfl))) rfl (by (repeat' (first | exact Bk.nil | apply Bk.cons rfl rfl rfl))) (by (repeat' (first | exact RnV.leaf rfl | exact RnC.nil | apply RnC.cons | apply RnV.ag | apply RnV.tu | exact RnV.bp rfl))) rfl ?_)
    | ((with_reducible apply AP.k_any); refine ap_callB 0 [(0, 0)] rfl rfl (fn := 112) rfl (dtakeRest_ac _ _ h1) (by (repeat' (first | exact PasC.nil | apply PasC.nil | apply PasC.cons | apply PasV.leaf rfl | apply PasV.nl | apply PasV.bp rfl | apply PasV.lend rfl rfl rfl | apply PasV.lend rfl rfl (ro_B _) | apply PasV.lend rfl rfl (ro_M _) | apply PasV.lend rfl rfl (ro_E _ _) | apply PasV.lend rfl rfl (ro_I _) | apply PasV.mv rfl | apply PasV.ag | apply PasV.fn | exact PasV.fs | apply PasV.any))) (by (repeat' (first | exact Out.nil | apply Out.cons rfl | exact ClsC.nil | apply ClsC.nl | apply ClsC.leaf rfl | apply ClsC.hd rfl | apply ClsC.fn | apply ClsC.fz rfl (ro_B _) | apply ClsC.fz rfl (ro_M _) | apply ClsC.fz rfl (ro_E _ _) | apply ClsC.fz rfl rfl))) rfl (by (repeat' (first | exact Bk.nil | apply Bk.cons rfl rfl rfl))) (by (repeat' (first | exact RnV.leaf rfl | exact RnC.nil | apply RnC.cons | apply RnV.ag | apply RnV.tu | exact RnV.bp rfl))) rfl ?_)
    )
      <;> (try simp only [nm, newS, plc, spl, bldA, bldS, zrow, chunks, ZC.val, Nat.reduceAdd, Nat.reduceSub, BEq.rfl]))
    | ((with_reducible apply AP.k_nil); first
        | (refine AP.nil (hQ' _ ?_); clear hQ' Q')
        | refine AP.nil ?_)
    | ((with_reducible apply CP.k_reg); refine cp_regG fun Q' hQ' => ?_)
      | (with_reducible apply CP.k_reg1; refine cp_region ?_)
      | ((with_reducible apply CP.k_cond); first
          | refine cp_condT rfl ?_
          | refine cp_condF rfl ?_
          | refine cp_cond rfl (fun hc => ?_) (fun hc => ?_))
      | (with_reducible first | refine cp_block ?_ | refine cp_exit ?_ | refine cp_ret ?_ | refine cp_skip ?_ | refine cp_seq ?_ | refine inB_hit ?_ | refine inB_n ?_ | refine inB_r ?_ | refine thenQ_n ?_ | refine thenQ_r ?_ | refine thenQ_e ?_ | refine cpn_succ ?_)
      | (refine inB_miss rfl ?_))
  apply RetQ.mk (ks := [(0, 0)]) (by first | exact .inr rfl | exact .inl rfl) (by exact ⟨rfl, rfl⟩)
  · (repeat' (first | exact RnV.leaf rfl | exact RnC.nil | apply RnC.cons | apply RnV.ag | apply RnV.tu | exact RnV.bp rfl))
  · (repeat' (first | exact ResL.nil | apply ResL.cons (Res1.row rfl rfl rfl rfl rfl) | apply ResL.cons (Res1.flat rfl rfl rfl rfl rfl) | apply ResL.cons (Res1.tmp (by (try simp only [List.getD_cons_succ, List.getD_cons_zero]); exact rfl))))
  · (repeat' (first | exact ClsC.nil | exact ClsL.nil | apply ClsC.nl | apply ClsC.leaf rfl | apply ClsC.hd rfl | apply ClsC.fn | apply ClsR.tu | apply ClsL.cons | apply ClsV.ag | exact ClsV.bp | exact ClsV.one (ClsC.leaf rfl ClsC.nil) | exact ClsV.one (ClsC.nl ClsC.nil) | exact ClsV.one (ClsC.hd rfl ClsC.nil) | apply ClsR.one))
  · (repeat' (first | exact Out.nil | apply Out.cons rfl | exact ClsC.nil | apply ClsC.nl | apply ClsC.leaf rfl | apply ClsC.hd rfl | apply ClsC.fn | apply ClsC.fz rfl (ro_B _) | apply ClsC.fz rfl (ro_M _) | apply ClsC.fz rfl (ro_E _ _) | apply ClsC.fz rfl rfl))
  · exact hks_of rfl
theorem dtakeConfig_ac (s : Rf) (hs : s.ok) : AC Try.prog 72 [.bp 0 0 0] [fB s] (fun v bs => v = .ag (eC none (configRF s).1) ∧ bs = [fB (configRF s).2]) := by
  have h1 := (sim_int s hs).2.2
  have h2 := (sim_count 5 _ h1).2.2
  obtain ⟨hc0, hc5⟩ : 0 ≤ (countF 5 (intF s).2).1 ∧ (countF 5 (intF s).2).1 ≤ 5 := by
    rw [(sim_count 5 _ h1).1]
    exact countR_le (by omega)
  refine AC.enter Try.func72 rfl rfl Try.ntmps72 (fl1_all rfl) (by (repeat' (first | exact Bk.nil | apply Bk.cons rfl rfl rfl))) ?_
  intro X
  simp only [nm, newS, plc, spl, bldA, bldS, zrow, chunks, ZC.val, Nat.reduceAdd, Nat.reduceSub, BEq.rfl]
  repeat' (first
    | ((first
    | ((with_reducible apply AP.k_any); first
             | (refine AP.s1 rfl ?_ ?_; focus ((repeat' (with_reducible apply And.intro)) <;> (first | exact True.intro | exact rfl | omega | (simp; omega) | (simp; done) | assumption)))
             | refine ap_alloc rfl rfl rfl rfl ?_
             | refine ap_store rfl rfl rfl rfl rfl rfl rfl rfl rfl ?_
             | refine ap_buildSlice rfl rfl rfl rfl rfl rfl rfl rfl rfl rfl rfl (by (repeat' (first | exact ClsC.nil | apply ClsC.leaf rfl | apply ClsC.hd rfl | apply ClsC.fn))) rfl ?_ | refine ap_bslB rfl rfl rfl rfl rfl rfl rfl rfl rfl rfl rfl rfl ?_
             | refine ap_appendO rfl rfl rfl rfl rfl rfl rfl rfl rfl rfl rfl (by (first | omega | (simp; omega) | (simp; done) | assumption)) (.inl ⟨rfl, rfl⟩) ?_ | refine ap_appendO rfl rfl rfl rfl rfl rfl rfl rfl rfl rfl rfl (by (first | omega | (simp; omega) | (simp; done) | assumption)) (.inr ⟨_, _, rfl, rfl, rfl, rfl⟩) ?_
             | refine ap_appendN rfl rfl rfl rfl rfl rfl rfl rfl rfl rfl (.inl ⟨rfl, rfl⟩) (by (first | omega | (simp; omega) | (simp; done) | assumption)) ?_ | refine ap_appendN rfl rfl rfl rfl rfl rfl rfl rfl rfl rfl (.inr ⟨_, _, rfl, rfl, rfl⟩) (by (first | omega | (simp; omega) | (simp; done) | assumption)) ?_
             | refine ap_appendF rfl rfl rfl rfl rfl rfl rfl rfl rfl rfl (.inl ⟨rfl, rfl⟩) (by (first | omega | (simp; omega) | (simp; done) | assumption)) (by first | exact .inl rfl | exact .inr (by (first | omega | (simp; omega) | (simp; done) | assumption))) ?_ | refine ap_appendF rfl rfl rfl rfl rfl rfl rfl rfl rfl rfl (.inr ⟨_, _, rfl, rfl, rfl⟩) (by (first | omega | (simp; omega) | (simp; done) | assumption)) (by first | exact .inl rfl | exact .inr (by (first | omega | (simp; omega) | (simp; done) | assumption))) ?_
             | refine ap_appendH rfl rfl rfl rfl rfl rfl rfl rfl rfl rfl rfl (by (first | omega | (simp; omega) | (simp; done) | assumption)) (by (first | omega | (simp; omega) | (simp; done) | assumption)) (.inr ⟨_, _, rfl, rfl, rfl, rfl⟩) ?_
      )
    | ((with_reducible apply AP.k_any); refine ap_callB 0 [(0, 0)] rfl rfl (fn := 73) rfl (dintR_ac s hs) (by (repeat' (first | exact PasC.nil | apply PasC.nil | apply PasC.cons | apply PasV.leaf rfl | apply PasV.nl | apply PasV.bp rfl | apply PasV.lend rfl rfl rfl | apply PasV.lend rfl rfl (ro_B _) | apply PasV.lend rfl rfl (ro_M _) | apply PasV.lend rfl rfl (ro_E _ _) | apply PasV.lend rfl rfl (ro_I _) | apply PasV.mv rfl | apply PasV.ag | apply PasV.fn | exact PasV.fs | apply PasV.any))) (by (repeat' (first | exact Out.nil | apply Out.cons rfl | exact ClsC.nil | apply ClsC.nl | apply ClsC.leaf rfl | apply ClsC.hd rfl | apply ClsC.fn | apply ClsC.fz rfl (ro_B _) | apply ClsC.fz rfl (ro_M _) | apply ClsC.fz rfl (ro_E _ _) | apply ClsC.fz rfl rfl))) rfl (by (repeat' (first | exact Bk.nil | apply Bk.cons rfl rfl rfl))) (by (repeat' (first | exact RnV.leaf rfl | exact RnC.nil | apply RnC.cons | apply RnV.ag | apply RnV.tu | exact RnV.bp rfl))) rfl ?_)
    | ((with_reducible apply AP.k_any); refine ap_callB 0 [(0, 0)] rfl rfl (fn := 110) rfl (dcount_ac 5 _ h1) (by (repeat' (first | exact PasC.nil | apply PasC.nil | apply PasC.cons | apply PasV.leaf rfl | apply PasV.nl | apply PasV.bp rfl | apply PasV.lend rfl rfl rfl | apply PasV.lend rfl rfl (ro_B _) | apply PasV.lend rfl rfl (ro_M _) | apply PasV.lend rfl rfl (ro_E _ _) | apply PasV.lend rfl rfl (ro_I _) | apply PasV.mv rfl | apply PasV.ag | apply PasV.fn | exact PasV.fs | apply PasV.any))) (by (repeat' (first | exact Out.nil | apply Out.cons rfl | exact ClsC.nil | apply ClsC.nl | apply ClsC.leaf rfl | apply ClsC.hd rfl | apply ClsC.fn | apply ClsC.fz rfl (ro_B _) | apply ClsC.fz rfl (ro_M _) | apply ClsC.fz rfl (ro_E _ _) | apply ClsC.fz rfl rfl))) rfl (by (repeat' (first | exact Bk.nil | apply Bk.cons rfl rfl rfl))) (by (repeat' (first | exact RnV.leaf rfl | exact RnC.nil | apply RnC.cons | apply RnV.ag | apply RnV.tu | exact RnV.bp rfl))) rfl ?_)
    )
      <;> (try simp only [nm, newS, plc, spl, bldA, bldS, zrow, chunks, ZC.val, Nat.reduceAdd, Nat.reduceSub, BEq.rfl]))
    | ((with_reducible apply AP.k_nil); first
        | (refine AP.nil (hQ' _ ?_); clear hQ' Q')
        | refine AP.nil ?_)
    | ((with_reducible apply CP.k_reg); refine cp_regG fun Q' hQ' => ?_)
      | (with_reducible apply CP.k_reg1; refine cp_region ?_)
      | ((with_reducible apply CP.k_cond); first
          | refine cp_condT rfl ?_
          | refine cp_condF rfl ?_
          | refine cp_cond rfl (fun hc => ?_) (fun hc => ?_))
      | (with_reducible first | refine cp_block ?_ | refine cp_exit ?_ | refine cp_ret ?_ | refine cp_skip ?_ | refine cp_seq ?_ | refine inB_hit ?_ | refine inB_n ?_ | refine inB_r ?_ | refine thenQ_n ?_ | refine thenQ_r ?_ | refine thenQ_e ?_ | refine cpn_succ ?_)
      | (refine inB_miss rfl ?_))
  refine CP.gh (gh_nilc (j := 2) (u := 1) (off := 1) (e := tM) (k := 3) rfl rfl) ?_
  simp only [nm, newS, plc, spl, bldA, bldS, zrow, chunks, ZC.val, Nat.reduceAdd, Nat.reduceSub, BEq.rfl]
  refine CP.gh gh_slot ?_; simp only [nm, newS, plc, spl, bldA, bldS, zrow, chunks, ZC.val, Nat.reduceAdd, Nat.reduceSub, BEq.rfl]
  refine CP.gh gh_slot ?_; simp only [nm, newS, plc, spl, bldA, bldS, zrow, chunks, ZC.val, Nat.reduceAdd, Nat.reduceSub, BEq.rfl]
  have h0 : (configRF s) = (⟨(intF s).1, (memsRF (countF 5 (intF s).2).1.toNat (countF 5 (intF s).2).2).1⟩, (memsRF (countF 5 (intF s).2).1.toNat (countF 5 (intF s).2).2).2) := rfl
  rw [h0]
  clear h0
  obtain ⟨N, hN⟩ : ∃ N : Nat, (countF 5 (intF s).2).1 = N := ⟨(countF 5 (intF s).2).1.toNat, by omega⟩
  rw [hN] at hc5 ⊢
  rw [Int.toNat_natCast]
  generalize (countF 5 (intF s).2).2 = S0 at h2 ⊢
  refine cp_loopS [5, 6, 12, 13, 14, 15, 16, 17, 18, 19, 20, 21, 22, 23, 24, 25, 26, 27, 28, 29, 30, 31] (fun a : Nat × Nat × Nat × Nat => N - a.1) (fun a => a.1 ≤ N) (fun a => [(5, I a.1)]) (fun a => [(0, ⟨0, fB (memsRF a.1 S0).2⟩), (2, ⟨1, .c 24 [I (intF s).1, .hd 3 a.2.1]⟩), (3, ⟨a.2.1, .r tM 3 ((memsRF a.1 S0).1.map eM)⟩), (4, ⟨a.2.2.1, .x⟩), (5, ⟨a.2.2.2, .x⟩)]) (0, 1, 0, 0) (Nat.zero_le _) (by (refine gh_wk ?_; (try simp only [setT, deT, setB, List.set_cons_succ, List.set_cons_zero]); (refine ⟨?_, ?_⟩ <;> (try dsimp only) <;> (repeat' (first | exact Wk.nil | exact WkB.nil | apply Wk.same | apply Wk.de | apply Wk.nl | apply WkB.same | apply WkB.drop))))) ?_
  rintro ⟨k, u, v, w⟩ hk
  simp only [setT, deT, setB, List.set_cons_succ, List.set_cons_zero]
  dsimp only at hk
  have hS := (sim_mems k S0 h2).2.2
  have hL := memsRF_len k S0
  have hs1 := (memsRF_snoc k S0).1
  have hs2 := (memsRF_snoc k S0).2
  by_cases hlt : k < N
  · have hw : IntKind.i64.wrap ((k : Int) + 1) = ((k + 1 : Nat) : Int) := wrap_i64 (by omega) (by omega)
    generalize hms : memsRF k S0 = ms at hS hL hs1 hs2 ⊢
    obtain ⟨ml, S⟩ := ms
    dsimp only at hS hL hs1 hs2 ⊢
    have g1 := (sim_int S hS).2.2
    have g2 := (sim_int _ g1).2.2
    have hlen : (ml.map eM).length + 1 ≤ 1000000000 := by rw [List.length_map]; omega
    repeat' (first
      | ((first
      | ((with_reducible apply AP.k_any); first
               | (refine AP.s1 rfl ?_ ?_; focus ((repeat' (with_reducible apply And.intro)) <;> (first | exact True.intro | exact rfl | omega | (simp; omega) | (simp; done) | assumption)))
               | refine ap_alloc rfl rfl rfl rfl ?_
               | refine ap_store rfl rfl rfl rfl rfl rfl rfl rfl rfl ?_
               | refine ap_buildSlice rfl rfl rfl rfl rfl rfl rfl rfl rfl rfl rfl (by (repeat' (first | exact ClsC.nil | apply ClsC.leaf rfl | apply ClsC.hd rfl | apply ClsC.fn))) rfl ?_ | refine ap_bslB rfl rfl rfl rfl rfl rfl rfl rfl rfl rfl rfl rfl ?_
               | refine ap_appendO rfl rfl rfl rfl rfl rfl rfl rfl rfl rfl rfl (by (first | omega | (simp; omega) | (simp; done) | assumption)) (.inl ⟨rfl, rfl⟩) ?_ | refine ap_appendO rfl rfl rfl rfl rfl rfl rfl rfl rfl rfl rfl (by (first | omega | (simp; omega) | (simp; done) | assumption)) (.inr ⟨_, _, rfl, rfl, rfl, rfl⟩) ?_
               | refine ap_appendN rfl rfl rfl rfl rfl rfl rfl rfl rfl rfl (.inl ⟨rfl, rfl⟩) (by (first | omega | (simp; omega) | (simp; done) | assumption)) ?_ | refine ap_appendN rfl rfl rfl rfl rfl rfl rfl rfl rfl rfl (.inr ⟨_, _, rfl, rfl, rfl⟩) (by (first | omega | (simp; omega) | (simp; done) | assumption)) ?_
               | refine ap_appendF rfl rfl rfl rfl rfl rfl rfl rfl rfl rfl (.inl ⟨rfl, rfl⟩) (by (first | omega | (simp; omega) | (simp; done) | assumption)) (by first | exact .inl rfl | exact .inr (by (first | omega | (simp; omega) | (simp; done) | assumption))) ?_ | refine ap_appendF rfl rfl rfl rfl rfl rfl rfl rfl rfl rfl (.inr ⟨_, _, rfl, rfl, rfl⟩) (by (first | omega | (simp; omega) | (simp; done) | assumption)) (by first | exact .inl rfl | exact .inr (by (first | omega | (simp; omega) | (simp; done) | assumption))) ?_
               | refine ap_appendH rfl rfl rfl rfl rfl rfl rfl rfl rfl rfl rfl (by (first | omega | (simp; omega) | (simp; done) | assumption)) (by (first | omega | (simp; omega) | (simp; done) | assumption)) (.inr ⟨_, _, rfl, rfl, rfl, rfl⟩) ?_
        )
      | ((with_reducible apply AP.k_any); refine ap_callB 0 [(0, 0)] rfl rfl (fn := 73) rfl (dintR_ac (intF S).2 g1) (by (repeat' (first | exact PasC.nil | apply PasC.nil | apply PasC.cons | apply PasV.leaf rfl | apply PasV.nl | apply PasV.bp rfl | apply PasV.lend rfl rfl rfl | apply PasV.lend rfl rfl (ro_B _) | apply PasV.lend rfl rfl (ro_M _) | apply PasV.lend rfl rfl (ro_E _ _) | apply PasV.lend rfl rfl (ro_I _) | apply PasV.mv rfl | apply PasV.ag | apply PasV.fn | exact PasV.fs | apply PasV.any))) (by (repeat' (first | exact Out.nil | apply Out.cons rfl | exact ClsC.nil | apply ClsC.nl | apply ClsC.leaf rfl | apply ClsC.hd rfl | apply ClsC.fn | apply ClsC.fz rfl (ro_B _) | apply ClsC.fz rfl (ro_M _) | apply ClsC.fz rfl (ro_E _ _) | apply ClsC.fz rfl rfl))) rfl (by (repeat' (first | exact Bk.nil | apply Bk.cons rfl rfl rfl))) (by (repeat' (first | exact RnV.leaf rfl | exact RnC.nil | apply RnC.cons | apply RnV.ag | apply RnV.tu | exact RnV.bp rfl))) rfl ?_)
        | ((with_reducible apply AP.k_any); refine ap_callB 0 [(0, 0)] rfl rfl (fn := 73) rfl (dintR_ac S hS) (by (repeat' (first | exact PasC.nil | apply PasC.nil | apply PasC.cons | apply PasV.leaf rfl | apply PasV.nl | apply PasV.bp rfl | apply PasV.lend rfl rfl rfl | apply PasV.lend rfl rfl (ro_B _) | apply PasV.lend rfl rfl (ro_M _) | apply PasV.lend rfl rfl (ro_E _ _) | apply PasV.lend rfl rfl (ro_I _) | apply PasV.mv rfl | apply PasV.ag | apply PasV.fn | exact PasV.fs | apply PasV.any))) (by (repeat' (first | exact Out.nil | apply Out.cons rfl | exact ClsC.nil | apply ClsC.nl | apply ClsC.leaf rfl | apply ClsC.hd rfl | apply ClsC.fn | apply ClsC.fz rfl (ro_B _) | apply ClsC.fz rfl (ro_M _) | apply ClsC.fz rfl (ro_E _ _) | apply ClsC.fz rfl rfl))) rfl (by (repeat' (first | exact Bk.nil | apply Bk.cons rfl rfl rfl))) (by (repeat' (first | exact RnV.leaf rfl | exact RnC.nil | apply RnC.cons | apply RnV.ag | apply RnV.tu | exact RnV.bp rfl))) rfl ?_)
        | ((with_reducible apply AP.k_any); refine ap_callB 0 [(0, 0)] rfl rfl (fn := 74) rfl (dflagR_ac _ g2) (by (repeat' (first | exact PasC.nil | apply PasC.nil | apply PasC.cons | apply PasV.leaf rfl | apply PasV.nl | apply PasV.bp rfl | apply PasV.lend rfl rfl rfl | apply PasV.lend rfl rfl (ro_B _) | apply PasV.lend rfl rfl (ro_M _) | apply PasV.lend rfl rfl (ro_E _ _) | apply PasV.lend rfl rfl (ro_I _) | apply PasV.mv rfl | apply PasV.ag | apply PasV.fn | exact PasV.fs | apply PasV.any))) (by (repeat' (first | exact Out.nil | apply Out.cons rfl | exact ClsC.nil | apply ClsC.nl | apply ClsC.leaf rfl | apply ClsC.hd rfl | apply ClsC.fn | apply ClsC.fz rfl (ro_B _) | apply ClsC.fz rfl (ro_M _) | apply ClsC.fz rfl (ro_E _ _) | apply ClsC.fz rfl rfl))) rfl (by (repeat' (first | exact Bk.nil | apply Bk.cons rfl rfl rfl))) (by (repeat' (first | exact RnV.leaf rfl | exact RnC.nil | apply RnC.cons | apply RnV.ag | apply RnV.tu | exact RnV.bp rfl))) rfl ?_)
      )
        <;> (try simp only [nm, newS, plc, spl, bldA, bldS, zrow, chunks, ZC.val, Nat.reduceAdd, Nat.reduceSub, BEq.rfl]))
      | ((with_reducible apply AP.k_nil); first
          | (refine AP.nil (hQ' _ ?_); clear hQ' Q')
          | refine AP.nil ?_)
      | ((with_reducible apply CP.k_reg); refine cp_regG fun Q' hQ' => ?_)
        | (with_reducible apply CP.k_reg1; refine cp_region ?_)
        | ((with_reducible apply CP.k_cond); first
            | refine cp_condT rfl ?_
            | refine cp_condF rfl ?_
            | refine cp_cond rfl (fun hc => ?_) (fun hc => ?_))
        | (with_reducible first | refine cp_block ?_ | refine cp_exit ?_ | refine cp_ret ?_ | refine cp_skip ?_ | refine cp_seq ?_ | refine inB_hit ?_ | refine inB_n ?_ | refine inB_r ?_ | refine thenQ_n ?_ | refine thenQ_r ?_ | refine thenQ_e ?_ | refine cpn_succ ?_)
        | (refine inB_miss rfl ?_))
    · simp only [hw]
      refine ⟨(k + 1, u + 1, v + 1, w + 1), by (dsimp only; omega), by (dsimp only; omega), ?_⟩
      dsimp only
      rw [hs1, hs2, List.map_append, List.map_cons, List.map_nil]
      (refine gh_wk ?_; (try simp only [setT, deT, setB, List.set_cons_succ, List.set_cons_zero]); (refine ⟨?_, ?_⟩ <;> (try dsimp only) <;> (repeat' (first | exact Wk.nil | exact WkB.nil | apply Wk.same | apply Wk.de | apply Wk.nl | apply WkB.same | apply WkB.drop))))
    · exfalso; simp at *; omega
  · obtain rfl : k = N := by omega
    refine CP.gh (gh_fz (b := 3) (u := u) rfl rfl (by (repeat' (first | exact FzC.nil | apply FzC.cons | exact FzV.hd | apply FzV.ag | exact FzV.same))) (by (repeat' (first | exact FzB.nil | apply FzB.c | apply FzB.same | exact FzC.nil | apply FzC.cons | exact FzV.hd | apply FzV.ag | exact FzV.same)))) ?_
    simp only [ro_M]
    repeat' (first
      | ((first
      | ((with_reducible apply AP.k_any); first
               | (refine AP.s1 rfl ?_ ?_; focus ((repeat' (with_reducible apply And.intro)) <;> (first | exact True.intro | exact rfl | omega | (simp; omega) | (simp; done) | assumption)))
               | refine ap_alloc rfl rfl rfl rfl ?_
               | refine ap_store rfl rfl rfl rfl rfl rfl rfl rfl rfl ?_
               | refine ap_buildSlice rfl rfl rfl rfl rfl rfl rfl rfl rfl rfl rfl (by (repeat' (first | exact ClsC.nil | apply ClsC.leaf rfl | apply ClsC.hd rfl | apply ClsC.fn))) rfl ?_ | refine ap_bslB rfl rfl rfl rfl rfl rfl rfl rfl rfl rfl rfl rfl ?_
               | refine ap_appendO rfl rfl rfl rfl rfl rfl rfl rfl rfl rfl rfl (by (first | omega | (simp; omega) | (simp; done) | assumption)) (.inl ⟨rfl, rfl⟩) ?_ | refine ap_appendO rfl rfl rfl rfl rfl rfl rfl rfl rfl rfl rfl (by (first | omega | (simp; omega) | (simp; done) | assumption)) (.inr ⟨_, _, rfl, rfl, rfl, rfl⟩) ?_
               | refine ap_appendN rfl rfl rfl rfl rfl rfl rfl rfl rfl rfl (.inl ⟨rfl, rfl⟩) (by (first | omega | (simp; omega) | (simp; done) | assumption)) ?_ | refine ap_appendN rfl rfl rfl rfl rfl rfl rfl rfl rfl rfl (.inr ⟨_, _, rfl, rfl, rfl⟩) (by (first | omega | (simp; omega) | (simp; done) | assumption)) ?_
               | refine ap_appendF rfl rfl rfl rfl rfl rfl rfl rfl rfl rfl (.inl ⟨rfl, rfl⟩) (by (first | omega | (simp; omega) | (simp; done) | assumption)) (by first | exact .inl rfl | exact .inr (by (first | omega | (simp; omega) | (simp; done) | assumption))) ?_ | refine ap_appendF rfl rfl rfl rfl rfl rfl rfl rfl rfl rfl (.inr ⟨_, _, rfl, rfl, rfl⟩) (by (first | omega | (simp; omega) | (simp; done) | assumption)) (by first | exact .inl rfl | exact .inr (by (first | omega | (simp; omega) | (simp; done) | assumption))) ?_
               | refine ap_appendH rfl rfl rfl rfl rfl rfl rfl rfl rfl rfl rfl (by (first | omega | (simp; omega) | (simp; done) | assumption)) (by (first | omega | (simp; omega) | (simp; done) | assumption)) (.inr ⟨_, _, rfl, rfl, rfl, rfl⟩) ?_
        )
      
      )
        <;> (try simp only [nm, newS, plc, spl, bldA, bldS, zrow, chunks, ZC.val, Nat.reduceAdd, Nat.reduceSub, BEq.rfl]))
      | ((with_reducible apply AP.k_nil); first
          | (refine AP.nil (hQ' _ ?_); clear hQ' Q')
          | refine AP.nil ?_)
      | ((with_reducible apply CP.k_reg); refine cp_regG fun Q' hQ' => ?_)
        | (with_reducible apply CP.k_reg1; refine cp_region ?_)
        | ((with_reducible apply CP.k_cond); first
            | refine cp_condT rfl ?_
            | refine cp_condF rfl ?_
            | refine cp_cond rfl (fun hc => ?_) (fun hc => ?_))
        | (with_reducible first | refine cp_block ?_ | refine cp_exit ?_ | refine cp_ret ?_ | refine cp_skip ?_ | refine cp_seq ?_ | refine inB_hit ?_ | refine inB_n ?_ | refine inB_r ?_ | refine thenQ_n ?_ | refine thenQ_r ?_ | refine thenQ_e ?_ | refine cpn_succ ?_)
        | (refine inB_miss rfl ?_))
    all_goals first
      | (exfalso; simp at *; done)
      | (exfalso; simp at *; omega)
      | apply RetQ.mk (ks := [(0, 0)]) (by first | exact .inr rfl | exact .inl rfl) (by exact ⟨rfl, rfl⟩)
        · (repeat' (first | exact RnV.leaf rfl | exact RnC.nil | apply RnC.cons | apply RnV.ag | apply RnV.tu | exact RnV.bp rfl))
        · (repeat' (first | exact ResL.nil | apply ResL.cons (Res1.row rfl rfl rfl rfl rfl) | apply ResL.cons (Res1.flat rfl rfl rfl rfl rfl) | apply ResL.cons (Res1.tmp (by (try simp only [List.getD_cons_succ, List.getD_cons_zero]); exact rfl))))
        · (repeat' (first | exact ClsC.nil | exact ClsL.nil | apply ClsC.nl | apply ClsC.leaf rfl | apply ClsC.hd rfl | apply ClsC.fn | apply ClsR.tu | apply ClsL.cons | apply ClsV.ag | exact ClsV.bp | exact ClsV.one (ClsC.leaf rfl ClsC.nil) | exact ClsV.one (ClsC.nl ClsC.nil) | exact ClsV.one (ClsC.hd rfl ClsC.nil) | apply ClsR.one))
        · (repeat' (first | exact Out.nil | apply Out.cons rfl | exact ClsC.nil | apply ClsC.nl | apply ClsC.leaf rfl | apply ClsC.hd rfl | apply ClsC.fn | apply ClsC.fz rfl (ro_B _) | apply ClsC.fz rfl (ro_M _) | apply ClsC.fz rfl (ro_E _ _) | apply ClsC.fz rfl rfl))
        · exact hks_of rfl
end Go.Proofs.Ytkdbedbefojieaa
