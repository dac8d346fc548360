/-
  Entries, configurations, read.
-/
import Derived.Test.YtkdbedbefojieaaW13
import Derived.Test.YtkdbedbefojieaaEnc
namespace Go.Proofs.Ytkdbedbefojieaa
set_option linter.unusedVariables false
set_option linter.unusedSimpArgs false
set_option maxHeartbeats 8000000
open Go.RowKit
set_option maxRecDepth 100000
theorem intR_len {st : Int × List UInt8} {k : Nat} (h : st.2.length ≤ k) : (intR st).2.2.length ≤ k := takeS_len h
theorem flagR_len {st : Int × List UInt8} {k : Nat} (h : st.2.length ≤ k) : (flagR st).2.2.length ≤ k := takeS_len h
theorem byteR_len {st : Int × List UInt8} {k : Nat} (h : st.2.length ≤ k) : (byteR st).2.2.length ≤ k := takeS_len h
theorem bytesR_len {st : Int × List UInt8} {k : Nat} (h : st.2.length ≤ k) : (bytesR st).2.2.length ≤ k := takeS_len (takeS_len h)
theorem countR_len {m : Int} {st : Int × List UInt8} {k : Nat} (h : st.2.length ≤ k) : (countR m st).2.2.length ≤ k := takeS_len h
def restR (pos : Int) (st : Int × List UInt8) : Entry × (Int × List UInt8) :=
  (⟨pos, (intR st).1, (intR (intR st).2).1, (intR (intR (intR st).2).2).1, (bytesR (intR (intR (intR st).2).2).2).1⟩, (bytesR (intR (intR (intR st).2).2).2).2)
def entryR (st : Int × List UInt8) : Entry × (Int × List UInt8) := restR (intR st).1 (intR st).2
def memR (st : Int × List UInt8) : Member × (Int × List UInt8) := (⟨(intR st).1, (intR (intR st).2).1, (flagR (intR (intR st).2).2).1⟩, (flagR (intR (intR st).2).2).2)
def memsR : Nat → (Int × List UInt8) → List Member × (Int × List UInt8)
  | 0, st => ([], st)
  | n + 1, st => ((memR st).1 :: (memsR n (memR st).2).1, (memsR n (memR st).2).2)
def configR (st : Int × List UInt8) : Config × (Int × List UInt8) :=
  (⟨(intR st).1, (memsR (countR 5 (intR st).2).1.toNat (countR 5 (intR st).2).2).1⟩, (memsR (countR 5 (intR st).2).1.toNat (countR 5 (intR st).2).2).2)
theorem restR_len {p : Int} {st : Int × List UInt8} {k : Nat} (h : st.2.length ≤ k) : (restR p st).2.2.length ≤ k := bytesR_len (intR_len (intR_len (intR_len h)))
theorem memR_len {st : Int × List UInt8} {k : Nat} (h : st.2.length ≤ k) : (memR st).2.2.length ≤ k := flagR_len (intR_len (intR_len h))
theorem memsR_len {k : Nat} : ∀ {n : Nat} {st : Int × List UInt8}, st.2.length ≤ k → (memsR n st).2.2.length ≤ k
  | 0, _, h => h
  | n + 1, st, h => memsR_len (n := n) (st := (memR st).2) (memR_len h)
theorem entryR_len {st : Int × List UInt8} {k : Nat} (h : st.2.length ≤ k) : (entryR st).2.2.length ≤ k := restR_len (intR_len h)
theorem configR_len {st : Int × List UInt8} {k : Nat} (h : st.2.length ≤ k) : (configR st).2.2.length ≤ k := memsR_len (countR_len (intR_len h))
theorem memsR_snoc : ∀ (n : Nat) (st : Int × List UInt8), (memsR (n + 1) st).1 = (memsR n st).1 ++ [(memR (memsR n st).2).1] ∧ (memsR (n + 1) st).2 = (memR (memsR n st).2).2
  | 0, st => ⟨rfl, rfl⟩
  | n + 1, st => by
    have h := memsR_snoc n (memR st).2
    exact ⟨by show (memR st).1 :: (memsR (n + 1) (memR st).2).1 = _; rw [h.1]; rfl, h.2⟩
theorem memsR_fst_len : ∀ (n : Nat) (st : Int × List UInt8), (memsR n st).1.length = n
  | 0, _ => rfl
  | n + 1, st => by show (_ :: _).length = _; rw [List.length_cons, memsR_fst_len n]
theorem countR_le {m : Int} {st : Int × List UInt8} (hm : 0 ≤ m) : 0 ≤ (countR m st).1 ∧ (countR m st).1 ≤ m := by
  unfold countR takeS
  split
  · exact ⟨Int.le_refl _, hm⟩
  · split
    · exact ⟨Int.le_refl _, hm⟩
    · split
      · rename_i h
        simp [countG] at h
        exact ⟨h.1.1, h.1.2⟩
      · exact ⟨Int.le_refl _, hm⟩
theorem takeRest_ac (pos : Int) (st : Int × List UInt8) (hst : st.2.length ≤ 100000000) :
    AC Try.prog 107 [.bp 0 0 0, I pos] [rB st] (fun v bs => v = .ag (eE none (restR pos st).1) ∧ bs = [rB (restR pos st).2]) := by
  have h1 := intR_len hst
  have h2 := intR_len h1
  have h3 := intR_len h2
  refine AC.enter Try.func107 rfl rfl Try.ntmps107 (fl1_all rfl) (by (repeat' (first | exact Bk.nil | apply Bk.cons rfl rfl rfl))) ?_
  intro X
  simp only [nm, newS, plc, spl, bldA, bldS, zrow, chunks, ZC.val, Nat.reduceAdd, Nat.reduceSub, BEq.rfl]
  repeat' (first
    | ((first
    | ((with_reducible apply AP.k_any); first
             | (refine AP.s1 rfl ?_ ?_; focus ((repeat' (with_reducible apply And.intro)) <;> (first | exact True.intro | exact rfl | omega | (simp; omega) | (simp; done) | assumption)))
             | refine ap_alloc rfl rfl rfl rfl ?_
             | refine ap_store rfl rfl rfl rfl rfl rfl rfl rfl rfl ?_
      )
    | ((with_reducible apply AP.k_any); refine ap_callB 0 [(0, 0)] rfl rfl (fn := 125) rfl (rbytes_ac (intR (intR (intR st).2).2).2 h3) (by (repeat' (first | exact PasC.nil | apply PasC.nil | apply PasC.cons | apply PasV.leaf rfl | apply PasV.nl | apply PasV.bp rfl | apply PasV.lend rfl rfl rfl | apply PasV.lend rfl rfl (ro_B _) | apply PasV.lend rfl rfl (ro_M _) | apply PasV.lend rfl rfl (ro_E _ _) | apply PasV.lend rfl rfl (ro_I _) | apply PasV.mv rfl | apply PasV.ag | apply PasV.fn | exact PasV.fs | apply PasV.any))) (by (repeat' (first | exact Out.nil | apply Out.cons rfl | exact ClsC.nil | apply ClsC.nl | apply ClsC.leaf rfl | apply ClsC.hd rfl | apply ClsC.fn | apply ClsC.fz rfl (ro_B _) | apply ClsC.fz rfl (ro_M _) | apply ClsC.fz rfl (ro_E _ _) | apply ClsC.fz rfl rfl))) rfl (by (repeat' (first | exact Bk.nil | apply Bk.cons rfl rfl rfl))) (by (repeat' (first | exact RnV.leaf rfl | exact RnC.nil | apply RnC.cons | apply RnV.ag | apply RnV.tu | exact RnV.bp rfl))) rfl ?_)
    | ((with_reducible apply AP.k_any); refine ap_callB 0 [(0, 0)] rfl rfl (fn := 66) rfl (rint_ac (intR (intR st).2).2 h2) (by (repeat' (first | exact PasC.nil | apply PasC.nil | apply PasC.cons | apply PasV.leaf rfl | apply PasV.nl | apply PasV.bp rfl | apply PasV.lend rfl rfl rfl | apply PasV.lend rfl rfl (ro_B _) | apply PasV.lend rfl rfl (ro_M _) | apply PasV.lend rfl rfl (ro_E _ _) | apply PasV.lend rfl rfl (ro_I _) | apply PasV.mv rfl | apply PasV.ag | apply PasV.fn | exact PasV.fs | apply PasV.any))) (by (repeat' (first | exact Out.nil | apply Out.cons rfl | exact ClsC.nil | apply ClsC.nl | apply ClsC.leaf rfl | apply ClsC.hd rfl | apply ClsC.fn | apply ClsC.fz rfl (ro_B _) | apply ClsC.fz rfl (ro_M _) | apply ClsC.fz rfl (ro_E _ _) | apply ClsC.fz rfl rfl))) rfl (by (repeat' (first | exact Bk.nil | apply Bk.cons rfl rfl rfl))) (by (repeat' (first | exact RnV.leaf rfl | exact RnC.nil | apply RnC.cons | apply RnV.ag | apply RnV.tu | exact RnV.bp rfl))) rfl ?_)
    | ((with_reducible apply AP.k_any); refine ap_callB 0 [(0, 0)] rfl rfl (fn := 66) rfl (rint_ac (intR st).2 h1) (by (repeat' (first | exact PasC.nil | apply PasC.nil | apply PasC.cons | apply PasV.leaf rfl | apply PasV.nl | apply PasV.bp rfl | apply PasV.lend rfl rfl rfl | apply PasV.lend rfl rfl (ro_B _) | apply PasV.lend rfl rfl (ro_M _) | apply PasV.lend rfl rfl (ro_E _ _) | apply PasV.lend rfl rfl (ro_I _) | apply PasV.mv rfl | apply PasV.ag | apply PasV.fn | exact PasV.fs | apply PasV.any))) (by (repeat' (first | exact Out.nil | apply Out.cons rfl | exact ClsC.nil | apply ClsC.nl | apply ClsC.leaf rfl | apply ClsC.hd rfl | apply ClsC.fn | apply ClsC.fz rfl (ro_B _) | apply ClsC.fz rfl (ro_M _) | apply ClsC.fz rfl (ro_E _ _) | apply ClsC.fz rfl rfl))) rfl (by (repeat' (first | exact Bk.nil | apply Bk.cons rfl rfl rfl))) (by (repeat' (first | exact RnV.leaf rfl | exact RnC.nil | apply RnC.cons | apply RnV.ag | apply RnV.tu | exact RnV.bp rfl))) rfl ?_)
    | ((with_reducible apply AP.k_any); refine ap_callB 0 [(0, 0)] rfl rfl (fn := 66) rfl (rint_ac st hst) (by (repeat' (first | exact PasC.nil | apply PasC.nil | apply PasC.cons | apply PasV.leaf rfl | apply PasV.nl | apply PasV.bp rfl | apply PasV.lend rfl rfl rfl | apply PasV.lend rfl rfl (ro_B _) | apply PasV.lend rfl rfl (ro_M _) | apply PasV.lend rfl rfl (ro_E _ _) | apply PasV.lend rfl rfl (ro_I _) | apply PasV.mv rfl | apply PasV.ag | apply PasV.fn | exact PasV.fs | apply PasV.any))) (by (repeat' (first | exact Out.nil | apply Out.cons rfl | exact ClsC.nil | apply ClsC.nl | apply ClsC.leaf rfl | apply ClsC.hd rfl | apply ClsC.fn | apply ClsC.fz rfl (ro_B _) | apply ClsC.fz rfl (ro_M _) | apply ClsC.fz rfl (ro_E _ _) | apply ClsC.fz rfl rfl))) rfl (by (repeat' (first | exact Bk.nil | apply Bk.cons rfl rfl rfl))) (by (repeat' (first | exact RnV.leaf rfl | exact RnC.nil | apply RnC.cons | apply RnV.ag | apply RnV.tu | exact RnV.bp rfl))) rfl ?_)
    )
      <;> (try simp only [nm, newS, plc, spl, bldA, bldS, zrow, chunks, ZC.val, Nat.reduceAdd, Nat.reduceSub, BEq.rfl]))
    | ((with_reducible apply AP.k_nil); first
        | (refine AP.nil (hQ' _ ?_); clear hQ' Q')
        | refine AP.nil ?_)
    | ((with_reducible apply CP.k_reg); refine cp_regG fun Q' hQ' => ?_)
      | (with_reducible apply CP.k_reg1; refine cp_region ?_)
      | ((with_reducible apply CP.k_cond); first
          | refine cp_condT rfl ?_
          | refine cp_condF rfl ?_
          | refine cp_cond rfl (fun hc => ?_) (fun hc => ?_))
      | (with_reducible first | refine cp_block ?_ | refine cp_exit ?_ | refine cp_ret ?_ | refine cp_skip ?_ | refine cp_seq ?_ | refine inB_hit ?_ | refine inB_n ?_ | refine inB_r ?_ | refine thenQ_n ?_ | refine thenQ_r ?_ | refine thenQ_e ?_ | refine cpn_succ ?_)
      | (refine inB_miss rfl ?_))
  apply RetQ.mk (ks := [(0, 0)]) (by first | exact .inr rfl | exact .inl rfl) (by exact ⟨rfl, rfl⟩)
  · (repeat' (first | exact RnV.leaf rfl | exact RnC.nil | apply RnC.cons | apply RnV.ag | apply RnV.tu | exact RnV.bp rfl))
  · (repeat' (first | exact ResL.nil | apply ResL.cons (Res1.row rfl rfl rfl rfl rfl) | apply ResL.cons (Res1.flat rfl rfl rfl rfl rfl) | apply ResL.cons (Res1.tmp (by (try simp only [List.getD_cons_succ, List.getD_cons_zero]); exact rfl))))
  · (repeat' (first | exact ClsC.nil | exact ClsL.nil | apply ClsC.nl | apply ClsC.leaf rfl | apply ClsC.hd rfl | apply ClsC.fn | apply ClsR.tu | apply ClsL.cons | apply ClsV.ag | exact ClsV.bp | exact ClsV.one (ClsC.leaf rfl ClsC.nil) | exact ClsV.one (ClsC.nl ClsC.nil) | exact ClsV.one (ClsC.hd rfl ClsC.nil) | apply ClsR.one))
  · (repeat' (first | exact Out.nil | apply Out.cons rfl | exact ClsC.nil | apply ClsC.nl | apply ClsC.leaf rfl | apply ClsC.hd rfl | apply ClsC.fn | apply ClsC.fz rfl (ro_B _) | apply ClsC.fz rfl (ro_M _) | apply ClsC.fz rfl (ro_E _ _) | apply ClsC.fz rfl rfl))
  · exact hks_of rfl
theorem takeEntry_ac (st : Int × List UInt8) (hst : st.2.length ≤ 100000000) :
    AC Try.prog 68 [.bp 0 0 0] [rB st] (fun v bs => v = .ag (eE none (entryR st).1) ∧ bs = [rB (entryR st).2]) := by
  have h1 := intR_len hst
  refine AC.enter Try.func68 rfl rfl Try.ntmps68 (fl1_all rfl) (by (repeat' (first | exact Bk.nil | apply Bk.cons rfl rfl rfl))) ?_
  intro X
  simp only [nm, newS, plc, spl, bldA, bldS, zrow, chunks, ZC.val, Nat.reduceAdd, Nat.reduceSub, BEq.rfl]
  repeat' (first
    | ((first
    | ((with_reducible apply AP.k_any); first
             | (refine AP.s1 rfl ?_ ?_; focus ((repeat' (with_reducible apply And.intro)) <;> (first | exact True.intro | exact rfl | omega | (simp; omega) | (simp; done) | assumption)))
             | refine ap_alloc rfl rfl rfl rfl ?_
             | refine ap_store rfl rfl rfl rfl rfl rfl rfl rfl rfl ?_
      )
    | ((with_reducible apply AP.k_any); refine ap_callB 0 [(0, 0)] rfl rfl (fn := 66) rfl (rint_ac st hst) (by (repeat' (first | exact PasC.nil | apply PasC.nil | apply PasC.cons | apply PasV.leaf rfl | apply PasV.nl | apply PasV.bp rfl | apply PasV.lend rfl rfl rfl | apply PasV.lend rfl rfl (ro_B _) | apply PasV.lend rfl rfl (ro_M _) | apply PasV.lend rfl rfl (ro_E _ _) | apply PasV.lend rfl rfl (ro_I _) | apply PasV.mv rfl | apply PasV.ag | apply PasV.fn | exact PasV.fs | apply PasV.any))) (by (repeat' (first | exact Out.nil | apply Out.cons rfl | exact ClsC.nil | apply ClsC.nl | apply ClsC.leaf rfl | apply ClsC.hd rfl | apply ClsC.fn | apply ClsC.fz rfl (ro_B _) | apply ClsC.fz rfl (ro_M _) | apply ClsC.fz rfl (ro_E _ _) | apply ClsC.fz rfl rfl))) rfl (by (repeat' (first | exact Bk.nil | apply Bk.cons rfl rfl rfl))) (by (repeat' (first | exact RnV.leaf rfl | exact RnC.nil | apply RnC.cons | apply RnV.ag | apply RnV.tu | exact RnV.bp rfl))) rfl ?_)
    | ((with_reducible apply AP.k_any); refine ap_callB 0 [(0, 0)] rfl rfl (fn := 107) rfl (takeRest_ac _ _ h1) (by (repeat' (first | exact PasC.nil | apply PasC.nil | apply PasC.cons | apply PasV.leaf rfl | apply PasV.nl | apply PasV.bp rfl | apply PasV.lend rfl rfl rfl | apply PasV.lend rfl rfl (ro_B _) | apply PasV.lend rfl rfl (ro_M _) | apply PasV.lend rfl rfl (ro_E _ _) | apply PasV.lend rfl rfl (ro_I _) | apply PasV.mv rfl | apply PasV.ag | apply PasV.fn | exact PasV.fs | apply PasV.any))) (by (repeat' (first | exact Out.nil | apply Out.cons rfl | exact ClsC.nil | apply ClsC.nl | apply ClsC.leaf rfl | apply ClsC.hd rfl | apply ClsC.fn | apply ClsC.fz rfl (ro_B _) | apply ClsC.fz rfl (ro_M _) | apply ClsC.fz rfl (ro_E _ _) | apply ClsC.fz rfl rfl))) rfl (by (repeat' (first | exact Bk.nil | apply Bk.cons rfl rfl rfl))) (by (repeat' (first | exact RnV.leaf rfl | exact RnC.nil | apply RnC.cons | apply RnV.ag | apply RnV.tu | exact RnV.bp rfl))) rfl ?_)
    )
      <;> (try simp only [nm, newS, plc, spl, bldA, bldS, zrow, chunks, ZC.val, Nat.reduceAdd, Nat.reduceSub, BEq.rfl]))
    | ((with_reducible apply AP.k_nil); first
        | (refine AP.nil (hQ' _ ?_); clear hQ' Q')
        | refine AP.nil ?_)
    | ((with_reducible apply CP.k_reg); refine cp_regG fun Q' hQ' => ?_)
      | (with_reducible apply CP.k_reg1; refine cp_region ?_)
      | ((with_reducible apply CP.k_cond); first
          | refine cp_condT rfl ?_
          | refine cp_condF rfl ?_
          | refine cp_cond rfl (fun hc => ?_) (fun hc => ?_))
      | (with_reducible first | refine cp_block ?_ | refine cp_exit ?_ | refine cp_ret ?_ | refine cp_skip ?_ | refine cp_seq ?_ | refine inB_hit ?_ | refine inB_n ?_ | refine inB_r ?_ | refine thenQ_n ?_ | refine thenQ_r ?_ | refine thenQ_e ?_ | refine cpn_succ ?_)
      | (refine inB_miss rfl ?_))
  apply RetQ.mk (ks := [(0, 0)]) (by first | exact .inr rfl | exact .inl rfl) (by exact ⟨rfl, rfl⟩)
  · (repeat' (first | exact RnV.leaf rfl | exact RnC.nil | apply RnC.cons | apply RnV.ag | apply RnV.tu | exact RnV.bp rfl))
  · (repeat' (first | exact ResL.nil | apply ResL.cons (Res1.row rfl rfl rfl rfl rfl) | apply ResL.cons (Res1.flat rfl rfl rfl rfl rfl) | apply ResL.cons (Res1.tmp (by (try simp only [List.getD_cons_succ, List.getD_cons_zero]); exact rfl))))
  · (repeat' (first | exact ClsC.nil | exact ClsL.nil | apply ClsC.nl | apply ClsC.leaf rfl | apply ClsC.hd rfl | apply ClsC.fn | apply ClsR.tu | apply ClsL.cons | apply ClsV.ag | exact ClsV.bp | exact ClsV.one (ClsC.leaf rfl ClsC.nil) | exact ClsV.one (ClsC.nl ClsC.nil) | exact ClsV.one (ClsC.hd rfl ClsC.nil) | apply ClsR.one))
  · (repeat' (first | exact Out.nil | apply Out.cons rfl | exact ClsC.nil | apply ClsC.nl | apply ClsC.leaf rfl | apply ClsC.hd rfl | apply ClsC.fn | apply ClsC.fz rfl (ro_B _) | apply ClsC.fz rfl (ro_M _) | apply ClsC.fz rfl (ro_E _ _) | apply ClsC.fz rfl rfl))
  · exact hks_of rfl
theorem takeConfig_ac (st : Int × List UInt8) (hst : st.2.length ≤ 100000000) :
    AC Try.prog 65 [.bp 0 0 0] [rB st] (fun v bs => v = .ag (eC none (configR st).1) ∧ bs = [rB (configR st).2]) := by
  have h1 := intR_len hst
  have h2 := countR_len (m := 5) h1
  obtain ⟨hc0, hc5⟩ := countR_le (m := 5) (st := (intR st).2) (by omega)
  refine AC.enter Try.func65 rfl rfl Try.ntmps65 (fl1_all rfl) (by (repeat' (first | exact Bk.nil | apply Bk.cons rfl rfl rfl))) ?_
  intro X
  simp only [nm, newS, plc, spl, bldA, bldS, zrow, chunks, ZC.val, Nat.reduceAdd, Nat.reduceSub, BEq.rfl]
  repeat' (first
    | ((first
    | ((with_reducible apply AP.k_any); first
             | (refine AP.s1 rfl ?_ ?_; focus ((repeat' (with_reducible apply And.intro)) <;> (first | exact True.intro | exact rfl | omega | (simp; omega) | (simp; done) | assumption)))
             | refine ap_alloc rfl rfl rfl rfl ?_
             | refine ap_store rfl rfl rfl rfl rfl rfl rfl rfl rfl ?_
             | refine ap_buildSlice rfl rfl rfl rfl rfl rfl rfl rfl rfl rfl rfl (by (repeat' (first | exact ClsC.nil | apply ClsC.leaf rfl | apply ClsC.hd rfl | apply ClsC.fn))) rfl ?_ | refine ap_bslB rfl rfl rfl rfl rfl rfl rfl rfl rfl rfl rfl rfl ?_
             | refine ap_appendO rfl rfl rfl rfl rfl rfl rfl rfl rfl rfl rfl (by (first | omega | (simp; omega) | (simp; done) | assumption)) (.inl ⟨rfl, rfl⟩) ?_ | refine ap_appendO rfl rfl rfl rfl rfl rfl rfl rfl rfl rfl rfl (by (first | omega | (simp; omega) | (simp; done) | assumption)) (.inr ⟨_, _, rfl, rfl, rfl, rfl⟩) ?_
             | refine ap_appendN rfl rfl rfl rfl rfl rfl rfl rfl rfl rfl (.inl ⟨rfl, rfl⟩) (by (first | omega | (simp; omega) | (simp; done) | assumption)) ?_ | refine ap_appendN rfl rfl rfl rfl rfl rfl rfl rfl rfl rfl (.inr ⟨_, _, rfl, rfl, rfl⟩) (by (first | omega | (simp; omega) | (simp; done) | assumption)) ?_
             | refine ap_appendF rfl rfl rfl rfl rfl rfl rfl rfl rfl rfl (.inl ⟨rfl, rfl⟩) (by (first | omega | (simp; omega) | (simp; done) | assumption)) (by first | exact .inl rfl | exact .inr (by (first | omega | (simp; omega) | (simp; done) | assumption))) ?_ | refine ap_appendF rfl rfl rfl rfl rfl rfl rfl rfl rfl rfl (.inr ⟨_, _, rfl, rfl, rfl⟩) (by (first | omega | (simp; omega) | (simp; done) | assumption)) (by first | exact .inl rfl | exact .inr (by (first | omega | (simp; omega) | (simp; done) | assumption))) ?_
             | refine ap_appendH rfl rfl rfl rfl rfl rfl rfl rfl rfl rfl rfl (by (first | omega | (simp; omega) | (simp; done) | assumption)) (by (first | omega | (simp; omega) | (simp; done) | assumption)) (.inr ⟨_, _, rfl, rfl, rfl, rfl⟩) ?_
      )
    | ((with_reducible apply AP.k_any); refine ap_callB 0 [(0, 0)] rfl rfl (fn := 66) rfl (rint_ac st hst) (by (repeat' (first | exact PasC.nil | apply PasC.nil | apply PasC.cons | apply PasV.leaf rfl | apply PasV.nl | apply PasV.bp rfl | apply PasV.lend rfl rfl rfl | apply PasV.lend rfl rfl (ro_B _) | apply PasV.lend rfl rfl (ro_M _) | apply PasV.lend rfl rfl (ro_E _ _) | apply PasV.lend rfl rfl (ro_I _) | apply PasV.mv rfl | apply PasV.ag | apply PasV.fn | exact PasV.fs | apply PasV.any))) (by (repeat' (first | exact Out.nil | apply Out.cons rfl | exact ClsC.nil | apply ClsC.nl | apply ClsC.leaf rfl | apply ClsC.hd rfl | apply ClsC.fn | apply ClsC.fz rfl (ro_B _) | apply ClsC.fz rfl (ro_M _) | apply ClsC.fz rfl (ro_E _ _) | apply ClsC.fz rfl rfl))) rfl (by (repeat' (first | exact Bk.nil | apply Bk.cons rfl rfl rfl))) (by (repeat' (first | exact RnV.leaf rfl | exact RnC.nil | apply RnC.cons | apply RnV.ag | apply RnV.tu | exact RnV.bp rfl))) rfl ?_)
    | ((with_reducible apply AP.k_any); refine ap_callB 0 [(0, 0)] rfl rfl (fn := 101) rfl (rcount_ac 5 _ h1) (by (repeat' (first | exact PasC.nil | apply PasC.nil | apply PasC.cons | apply PasV.leaf rfl | apply PasV.nl | apply PasV.bp rfl | apply PasV.lend rfl rfl rfl | apply PasV.lend rfl rfl (ro_B _) | apply PasV.lend rfl rfl (ro_M _) | apply PasV.lend rfl rfl (ro_E _ _) | apply PasV.lend rfl rfl (ro_I _) | apply PasV.mv rfl | apply PasV.ag | apply PasV.fn | exact PasV.fs | apply PasV.any))) (by (repeat' (first | exact Out.nil | apply Out.cons rfl | exact ClsC.nil | apply ClsC.nl | apply ClsC.leaf rfl | apply ClsC.hd rfl | apply ClsC.fn | apply ClsC.fz rfl (ro_B _) | apply ClsC.fz rfl (ro_M _) | apply ClsC.fz rfl (ro_E _ _) | apply ClsC.fz rfl rfl))) rfl (by (repeat' (first | exact Bk.nil | apply Bk.cons rfl rfl rfl))) (by (repeat' (first | exact RnV.leaf rfl | exact RnC.nil | apply RnC.cons | apply RnV.ag | apply RnV.tu | exact RnV.bp rfl))) rfl ?_)
    )
      <;> (try simp only [nm, newS, plc, spl, bldA, bldS, zrow, chunks, ZC.val, Nat.reduceAdd, Nat.reduceSub, BEq.rfl]))
    | ((with_reducible apply AP.k_nil); first
        | (refine AP.nil (hQ' _ ?_); clear hQ' Q')
        | refine AP.nil ?_)
    | ((with_reducible apply CP.k_reg); refine cp_regG fun Q' hQ' => ?_)
      | (with_reducible apply CP.k_reg1; refine cp_region ?_)
      | ((with_reducible apply CP.k_cond); first
          | refine cp_condT rfl ?_
          | refine cp_condF rfl ?_
          | refine cp_cond rfl (fun hc => ?_) (fun hc => ?_))
      | (with_reducible first | refine cp_block ?_ | refine cp_exit ?_ | refine cp_ret ?_ | refine cp_skip ?_ | refine cp_seq ?_ | refine inB_hit ?_ | refine inB_n ?_ | refine inB_r ?_ | refine thenQ_n ?_ | refine thenQ_r ?_ | refine thenQ_e ?_ | refine cpn_succ ?_)
      | (refine inB_miss rfl ?_))
  refine CP.gh (gh_nilc (j := 2) (u := 1) (off := 1) (e := tM) (k := 3) rfl rfl) ?_
  simp only [nm, newS, plc, spl, bldA, bldS, zrow, chunks, ZC.val, Nat.reduceAdd, Nat.reduceSub, BEq.rfl]
  refine CP.gh gh_slot ?_
  simp only [nm, newS, plc, spl, bldA, bldS, zrow, chunks, ZC.val, Nat.reduceAdd, Nat.reduceSub, BEq.rfl]
  have h0 : (configR st) = (⟨(intR st).1, (memsR (countR 5 (intR st).2).1.toNat (countR 5 (intR st).2).2).1⟩, (memsR (countR 5 (intR st).2).1.toNat (countR 5 (intR st).2).2).2) := rfl
  rw [h0]
  clear h0
  obtain ⟨N, hN⟩ : ∃ N : Nat, (countR 5 (intR st).2).1 = N := ⟨(countR 5 (intR st).2).1.toNat, by omega⟩
  rw [hN] at hc5 ⊢
  rw [Int.toNat_natCast]
  generalize (countR 5 (intR st).2).2 = S0 at h2 ⊢
  refine cp_loopS [9, 10, 11, 12, 13, 14, 15, 16, 17, 18, 19, 20, 21, 22, 23] (fun a : Nat × Nat × Nat => N - a.1) (fun a => a.1 ≤ N) (fun a => [(9, I a.1)]) (fun a => [(0, ⟨0, rB (memsR a.1 S0).2⟩), (2, ⟨1, .c 24 [I (intR st).1, .hd 3 a.2.1]⟩), (3, ⟨a.2.1, .r tM 3 ((memsR a.1 S0).1.map eM)⟩), (4, ⟨a.2.2, .x⟩)]) (0, 1, 0) (Nat.zero_le _) (by (refine gh_wk ?_; (try simp only [setT, deT, setB, List.set_cons_succ, List.set_cons_zero]); (refine ⟨?_, ?_⟩ <;> (try dsimp only) <;> (repeat' (first | exact Wk.nil | exact WkB.nil | apply Wk.same | apply Wk.de | apply Wk.nl | apply WkB.same | apply WkB.drop))))) ?_
  rintro ⟨k, u, v⟩ hk
  simp only [setT, deT, setB, List.set_cons_succ, List.set_cons_zero]
  dsimp only at hk
  have hS := memsR_len (n := k) h2
  have hL := memsR_fst_len k S0
  have hs1 := (memsR_snoc k S0).1
  have hs2 := (memsR_snoc k S0).2
  by_cases hlt : k < N
  · have hw : IntKind.i64.wrap ((k : Int) + 1) = ((k + 1 : Nat) : Int) := wrap_i64 (by omega) (by omega)
    generalize hms : memsR k S0 = ms at hS hL hs1 hs2 ⊢
    obtain ⟨ml, S⟩ := ms
    dsimp only at hS hL hs1 hs2 ⊢
    have g1 := intR_len hS
    have g2 := intR_len g1
    have hlen : (ml.map eM).length + 1 ≤ 1000000000 := by rw [List.length_map]; omega
    repeat' (first
      | ((first
      | ((with_reducible apply AP.k_any); first
               | (refine AP.s1 rfl ?_ ?_; focus ((repeat' (with_reducible apply And.intro)) <;> (first | exact True.intro | exact rfl | omega | (simp; omega) | (simp; done) | assumption)))
               | refine ap_alloc rfl rfl rfl rfl ?_
               | refine ap_store rfl rfl rfl rfl rfl rfl rfl rfl rfl ?_
               | refine ap_buildSlice rfl rfl rfl rfl rfl rfl rfl rfl rfl rfl rfl (by (repeat' (first | exact ClsC.nil | apply ClsC.leaf rfl | apply ClsC.hd rfl | apply ClsC.fn))) rfl ?_ | refine ap_bslB rfl rfl rfl rfl rfl rfl rfl rfl rfl rfl rfl rfl ?_
               | refine ap_appendO rfl rfl rfl rfl rfl rfl rfl rfl rfl rfl rfl (by (first | omega | (simp; omega) | (simp; done) | assumption)) (.inl ⟨rfl, rfl⟩) ?_ | refine ap_appendO rfl rfl rfl rfl rfl rfl rfl rfl rfl rfl rfl (by (first | omega | (simp; omega) | (simp; done) | assumption)) (.inr ⟨_, _, rfl, rfl, rfl, rfl⟩) ?_
               | refine ap_appendN rfl rfl rfl rfl rfl rfl rfl rfl rfl rfl (.inl ⟨rfl, rfl⟩) (by (first | omega | (simp; omega) | (simp; done) | assumption)) ?_ | refine ap_appendN rfl rfl rfl rfl rfl rfl rfl rfl rfl rfl (.inr ⟨_, _, rfl, rfl, rfl⟩) (by (first | omega | (simp; omega) | (simp; done) | assumption)) ?_
               | refine ap_appendF rfl rfl rfl rfl rfl rfl rfl rfl rfl rfl (.inl ⟨rfl, rfl⟩) (by (first | omega | (simp; omega) | (simp; done) | assumption)) (by first | exact .inl rfl | exact .inr (by (first | omega | (simp; omega) | (simp; done) | assumption))) ?_ | refine ap_appendF rfl rfl rfl rfl rfl rfl rfl rfl rfl rfl (.inr ⟨_, _, rfl, rfl, rfl⟩) (by (first | omega | (simp; omega) | (simp; done) | assumption)) (by first | exact .inl rfl | exact .inr (by (first | omega | (simp; omega) | (simp; done) | assumption))) ?_
               | refine ap_appendH rfl rfl rfl rfl rfl rfl rfl rfl rfl rfl rfl (by (first | omega | (simp; omega) | (simp; done) | assumption)) (by (first | omega | (simp; omega) | (simp; done) | assumption)) (.inr ⟨_, _, rfl, rfl, rfl, rfl⟩) ?_
        )
      
      )
        <;> (try simp only [nm, newS, plc, spl, bldA, bldS, zrow, chunks, ZC.val, Nat.reduceAdd, Nat.reduceSub, BEq.rfl]))
      | ((with_reducible apply AP.k_nil); first
          | (refine AP.nil (hQ' _ ?_); clear hQ' Q')
          | refine AP.nil ?_)
      | ((with_reducible apply CP.k_reg); refine cp_regG fun Q' hQ' => ?_)
        | (with_reducible apply CP.k_reg1; refine cp_region ?_)
        | ((with_reducible apply CP.k_cond); first
            | refine cp_condT rfl ?_
            | refine cp_condF rfl ?_
            | refine cp_cond rfl (fun hc => ?_) (fun hc => ?_))
        | (with_reducible first | refine cp_block ?_ | refine cp_exit ?_ | refine cp_ret ?_ | refine cp_skip ?_ | refine cp_seq ?_ | refine inB_hit ?_ | refine inB_n ?_ | refine inB_r ?_ | refine thenQ_n ?_ | refine thenQ_r ?_ | refine thenQ_e ?_ | refine cpn_succ ?_)
        | (refine inB_miss rfl ?_))
    · refine cp_drawI (fun zs zb => ⟨setT zs.t [(11, cond (zb.getD 0 false) (.bp 2 1 1) (.de)), (12, cond (zb.getD 1 false) (.hd 3 u) (.de)), (13, cond (zb.getD 2 false) (.bp 0 0 0) (.de)), (14, cond (zb.getD 3 false) (I (intR S).1) (.de)), (15, cond (zb.getD 4 false) (.bp 0 0 0) (.de)), (16, cond (zb.getD 5 false) (I (intR (intR S).2).1) (.de)), (17, cond (zb.getD 6 false) (.bp 0 0 0) (.de)), (18, cond (zb.getD 7 false) (B (flagR (intR (intR S).2).2).1) (.de)), (19, cond (zb.getD 8 false) (.ag (eM (memR S).1)) (.de)), (20, cond (zb.getD 9 false) (.hd 4 (v + 1)) (.de)), (21, cond (zb.getD 10 false) (.hd 3 (u + 1)) (.de)), (22, cond (zb.getD 11 false) (.bp 2 1 1) (.de))], ((((zs.b.set 0 (cond (zb.getD 7 false) (⟨0, rB (memR S).2⟩) (cond (zb.getD 5 false) (⟨0, rB (intR (intR S).2).2⟩) (cond (zb.getD 3 false) (⟨0, rB (intR S).2⟩) (zs.b.getD 0 ⟨0, .x⟩))))).set 2 (cond (zb.getD 12 false) (⟨1, .c 24 [I (intR st).1, .hd 3 (u + 1)]⟩) (zs.b.getD 2 ⟨0, .x⟩))).set 3 (cond (zb.getD 10 false) (⟨u + 1, .r tM 3 (ml.map eM ++ [eM (memR S).1])⟩) (zs.b.getD 3 ⟨0, .x⟩))).set 4 (cond (zb.getD 10 false) (⟨v + 1, .x⟩) (cond (zb.getD 9 false) (⟨v + 1, .r tM 3 [eM (memR S).1]⟩) (zs.b.getD 4 ⟨0, .x⟩))))⟩) (by kernel_rfl) (by kernel_rfl) (by kernel_rfl) ?_ ?_
      rotate_left
      simp only [cond_true, cond_false, setT, List.set_cons_succ, List.set_cons_zero, List.getD_cons_succ, List.getD_cons_zero, List.set_cons_succ, List.length_cons, List.length_nil, List.replicate_succ, List.replicate_zero, Nat.reduceAdd]
      rotate_left
      · intro b hb' hcl
        obtain ⟨l0, b0, rfl, hb0⟩ := len_cons hb'
        obtain ⟨l1, b1, rfl, hb1⟩ := len_cons hb0
        obtain ⟨l2, b2, rfl, hb2⟩ := len_cons hb1
        obtain ⟨l3, b3, rfl, hb3⟩ := len_cons hb2
        obtain ⟨l4, b4, rfl, hb4⟩ := len_cons hb3
        obtain ⟨l5, b5, rfl, hb5⟩ := len_cons hb4
        obtain ⟨l6, b6, rfl, hb6⟩ := len_cons hb5
        obtain ⟨l7, b7, rfl, hb7⟩ := len_cons hb6
        obtain ⟨l8, b8, rfl, hb8⟩ := len_cons hb7
        obtain ⟨l9, b9, rfl, hb9⟩ := len_cons hb8
        obtain ⟨l10, b10, rfl, hb10⟩ := len_cons hb9
        obtain ⟨l11, b11, rfl, hb11⟩ := len_cons hb10
        obtain ⟨l12, b12, rfl, hb12⟩ := len_cons hb11
        obtain rfl := List.length_eq_zero_iff.1 hb12
        clear hb' hb0 hb1 hb2 hb3 hb4 hb5 hb6 hb7 hb8 hb9 hb10 hb11 hb12
        · simp only [closedB, depsOk, Region.binds, List.toList_toArray, List.all_cons, List.all_nil, List.getD_cons_succ, List.getD_cons_zero, Bool.not_true, Bool.not_false, Bool.true_or, Bool.false_or, Bool.and_true, Bool.true_and, Bool.or_true, Bool.and_false, Bool.or_false, Bool.false_and, Bool.and_eq_true, Bool.or_eq_true, Bool.not_eq_true'] at hcl
          simp only [StepsP]
          refine ⟨?_, ?_, ?_, ?_, ?_, ?_, ?_, ?_, ?_, ?_, ?_, ?_, ?_, trivial⟩
          · intro h1 h2
            simp [depsOk, Region.binds] at h1 h2
            subst h1
            (repeat (obtain ⟨rfl, h2⟩ := h2))
            (try subst h2)
            clear hcl
            simp only [cond_true, cond_false, setT, List.set_cons_succ, List.set_cons_zero, List.getD_cons_succ, List.getD_cons_zero, List.set_cons_succ]
            (with_reducible apply AP.k_any); first | (refine AP.s1 rfl ?_ ?_; focus ((repeat' (with_reducible apply And.intro)) <;> (first | exact True.intro | exact rfl | omega | (simp; omega) | (simp; done) | assumption))) | fail "no step"
            all_goals (try simp only [nm, newS, plc, spl, bldA, bldS, zrow, chunks, ZC.val, Nat.reduceAdd, Nat.reduceSub, BEq.rfl])
            refine AP.nil ?_
            exact ⟨rfl, rfl⟩
          · intro h1 h2
            simp [depsOk, Region.binds] at h1 h2
            subst h1
            (repeat (obtain ⟨rfl, h2⟩ := h2))
            (try subst h2)
            (first | (obtain rfl : l10 = false := by grind only) | skip)
            (first | (obtain rfl : l12 = false := by grind only) | skip)
            clear hcl
            simp only [cond_true, cond_false, setT, List.set_cons_succ, List.set_cons_zero, List.getD_cons_succ, List.getD_cons_zero, List.set_cons_succ]
            (with_reducible apply AP.k_any); first | (refine AP.s1 rfl ?_ ?_; focus ((repeat' (with_reducible apply And.intro)) <;> (first | exact True.intro | exact rfl | omega | (simp; omega) | (simp; done) | assumption))) | refine AP.pure rfl (pq_load1_rp rfl rfl rfl rfl (by (first | (refine ⟨?_, ?_⟩; assumption; rfl) | exact ⟨mapAt (by (first | omega | (simp; omega) | (simp; done) | assumption)), rfl⟩ | exact ⟨rfl, rfl⟩))) ?_ | refine AP.pure rfl (pq_loadN_rp rfl rfl rfl rfl (by (first | (refine ⟨?_, ?_⟩; assumption; rfl) | exact ⟨mapAt (by (first | omega | (simp; omega) | (simp; done) | assumption)), rfl⟩ | exact ⟨rfl, rfl⟩))) ?_ | refine AP.pure rfl (pq_load1_ep rfl rfl rfl rfl rfl (by (first | (refine ⟨?_, ?_⟩; assumption; rfl) | exact ⟨mapAt (by (first | omega | (simp; omega) | (simp; done) | assumption)), rfl⟩ | exact ⟨rfl, rfl⟩))) ?_ | refine AP.pure rfl (pq_loadN_ep rfl rfl rfl rfl rfl (by (first | (refine ⟨?_, ?_⟩; assumption; rfl) | exact ⟨mapAt (by (first | omega | (simp; omega) | (simp; done) | assumption)), rfl⟩ | exact ⟨rfl, rfl⟩))) ?_ | fail "no step"
            all_goals (try simp only [nm, newS, plc, spl, bldA, bldS, zrow, chunks, ZC.val, Nat.reduceAdd, Nat.reduceSub, BEq.rfl])
            refine AP.nil ?_
            exact ⟨rfl, rfl⟩
          · intro h1 h2
            simp [depsOk, Region.binds] at h1 h2
            subst h1
            (repeat (obtain ⟨rfl, h2⟩ := h2))
            (try subst h2)
            clear hcl
            simp only [cond_true, cond_false, setT, List.set_cons_succ, List.set_cons_zero, List.getD_cons_succ, List.getD_cons_zero, List.set_cons_succ]
            (with_reducible apply AP.k_any); first | (refine AP.s1 rfl ?_ ?_; focus ((repeat' (with_reducible apply And.intro)) <;> (first | exact True.intro | exact rfl | omega | (simp; omega) | (simp; done) | assumption))) | fail "no step"
            all_goals (try simp only [nm, newS, plc, spl, bldA, bldS, zrow, chunks, ZC.val, Nat.reduceAdd, Nat.reduceSub, BEq.rfl])
            refine AP.nil ?_
            exact ⟨rfl, rfl⟩
          · intro h1 h2
            simp [depsOk, Region.binds] at h1 h2
            subst h1
            (repeat (obtain ⟨rfl, h2⟩ := h2))
            (try subst h2)
            (first | (obtain rfl : l5 = false := by grind only) | skip)
            (first | (obtain rfl : l7 = false := by grind only) | skip)
            (first | (obtain rfl : l9 = false := by grind only) | skip)
            (first | (obtain rfl : l10 = false := by grind only) | skip)
            (first | (obtain rfl : l12 = false := by grind only) | skip)
            clear hcl
            simp only [cond_true, cond_false, setT, List.set_cons_succ, List.set_cons_zero, List.getD_cons_succ, List.getD_cons_zero, List.set_cons_succ]
            (first
            | ((with_reducible apply AP.k_any); refine ap_callB 0 [(0, 0)] rfl rfl (fn := 66) rfl (rint_ac (intR S).2 g1) (by (repeat' (first | exact PasC.nil | apply PasC.nil | apply PasC.cons | apply PasV.leaf rfl | apply PasV.nl | apply PasV.bp rfl | apply PasV.lend rfl rfl rfl | apply PasV.lend rfl rfl (ro_B _) | apply PasV.lend rfl rfl (ro_M _) | apply PasV.lend rfl rfl (ro_E _ _) | apply PasV.lend rfl rfl (ro_I _) | apply PasV.mv rfl | apply PasV.ag | apply PasV.fn | exact PasV.fs | apply PasV.any))) (by (repeat' (first | exact Out.nil | apply Out.cons rfl | exact ClsC.nil | apply ClsC.nl | apply ClsC.leaf rfl | apply ClsC.hd rfl | apply ClsC.fn | apply ClsC.fz rfl (ro_B _) | apply ClsC.fz rfl (ro_M _) | apply ClsC.fz rfl (ro_E _ _) | apply ClsC.fz rfl rfl))) rfl (by (repeat' (first | exact Bk.nil | apply Bk.cons rfl rfl rfl))) (by (repeat' (first | exact RnV.leaf rfl | exact RnC.nil | apply RnC.cons | apply RnV.ag | apply RnV.tu | exact RnV.bp rfl))) rfl ?_)
            | ((with_reducible apply AP.k_any); refine ap_callB 0 [(0, 0)] rfl rfl (fn := 66) rfl (rint_ac S hS) (by (repeat' (first | exact PasC.nil | apply PasC.nil | apply PasC.cons | apply PasV.leaf rfl | apply PasV.nl | apply PasV.bp rfl | apply PasV.lend rfl rfl rfl | apply PasV.lend rfl rfl (ro_B _) | apply PasV.lend rfl rfl (ro_M _) | apply PasV.lend rfl rfl (ro_E _ _) | apply PasV.lend rfl rfl (ro_I _) | apply PasV.mv rfl | apply PasV.ag | apply PasV.fn | exact PasV.fs | apply PasV.any))) (by (repeat' (first | exact Out.nil | apply Out.cons rfl | exact ClsC.nil | apply ClsC.nl | apply ClsC.leaf rfl | apply ClsC.hd rfl | apply ClsC.fn | apply ClsC.fz rfl (ro_B _) | apply ClsC.fz rfl (ro_M _) | apply ClsC.fz rfl (ro_E _ _) | apply ClsC.fz rfl rfl))) rfl (by (repeat' (first | exact Bk.nil | apply Bk.cons rfl rfl rfl))) (by (repeat' (first | exact RnV.leaf rfl | exact RnC.nil | apply RnC.cons | apply RnV.ag | apply RnV.tu | exact RnV.bp rfl))) rfl ?_)
            | fail "no arm")
            all_goals (try simp only [nm, newS, plc, spl, bldA, bldS, zrow, chunks, ZC.val, Nat.reduceAdd, Nat.reduceSub, BEq.rfl])
            refine AP.nil ?_
            exact ⟨rfl, rfl⟩
          · intro h1 h2
            simp [depsOk, Region.binds] at h1 h2
            subst h1
            (repeat (obtain ⟨rfl, h2⟩ := h2))
            (try subst h2)
            clear hcl
            simp only [cond_true, cond_false, setT, List.set_cons_succ, List.set_cons_zero, List.getD_cons_succ, List.getD_cons_zero, List.set_cons_succ]
            (with_reducible apply AP.k_any); first | (refine AP.s1 rfl ?_ ?_; focus ((repeat' (with_reducible apply And.intro)) <;> (first | exact True.intro | exact rfl | omega | (simp; omega) | (simp; done) | assumption))) | fail "no step"
            all_goals (try simp only [nm, newS, plc, spl, bldA, bldS, zrow, chunks, ZC.val, Nat.reduceAdd, Nat.reduceSub, BEq.rfl])
            refine AP.nil ?_
            exact ⟨rfl, rfl⟩
          · intro h1 h2
            simp [depsOk, Region.binds] at h1 h2
            subst h1
            (repeat (obtain ⟨rfl, h2⟩ := h2))
            (try subst h2)
            (first | (obtain rfl : l3 = true := by grind only) | skip)
            (first | (obtain rfl : l7 = false := by grind only) | skip)
            (first | (obtain rfl : l9 = false := by grind only) | skip)
            (first | (obtain rfl : l10 = false := by grind only) | skip)
            (first | (obtain rfl : l12 = false := by grind only) | skip)
            clear hcl
            simp only [cond_true, cond_false, setT, List.set_cons_succ, List.set_cons_zero, List.getD_cons_succ, List.getD_cons_zero, List.set_cons_succ]
            (first
            | ((with_reducible apply AP.k_any); refine ap_callB 0 [(0, 0)] rfl rfl (fn := 66) rfl (rint_ac (intR S).2 g1) (by (repeat' (first | exact PasC.nil | apply PasC.nil | apply PasC.cons | apply PasV.leaf rfl | apply PasV.nl | apply PasV.bp rfl | apply PasV.lend rfl rfl rfl | apply PasV.lend rfl rfl (ro_B _) | apply PasV.lend rfl rfl (ro_M _) | apply PasV.lend rfl rfl (ro_E _ _) | apply PasV.lend rfl rfl (ro_I _) | apply PasV.mv rfl | apply PasV.ag | apply PasV.fn | exact PasV.fs | apply PasV.any))) (by (repeat' (first | exact Out.nil | apply Out.cons rfl | exact ClsC.nil | apply ClsC.nl | apply ClsC.leaf rfl | apply ClsC.hd rfl | apply ClsC.fn | apply ClsC.fz rfl (ro_B _) | apply ClsC.fz rfl (ro_M _) | apply ClsC.fz rfl (ro_E _ _) | apply ClsC.fz rfl rfl))) rfl (by (repeat' (first | exact Bk.nil | apply Bk.cons rfl rfl rfl))) (by (repeat' (first | exact RnV.leaf rfl | exact RnC.nil | apply RnC.cons | apply RnV.ag | apply RnV.tu | exact RnV.bp rfl))) rfl ?_)
            | ((with_reducible apply AP.k_any); refine ap_callB 0 [(0, 0)] rfl rfl (fn := 66) rfl (rint_ac S hS) (by (repeat' (first | exact PasC.nil | apply PasC.nil | apply PasC.cons | apply PasV.leaf rfl | apply PasV.nl | apply PasV.bp rfl | apply PasV.lend rfl rfl rfl | apply PasV.lend rfl rfl (ro_B _) | apply PasV.lend rfl rfl (ro_M _) | apply PasV.lend rfl rfl (ro_E _ _) | apply PasV.lend rfl rfl (ro_I _) | apply PasV.mv rfl | apply PasV.ag | apply PasV.fn | exact PasV.fs | apply PasV.any))) (by (repeat' (first | exact Out.nil | apply Out.cons rfl | exact ClsC.nil | apply ClsC.nl | apply ClsC.leaf rfl | apply ClsC.hd rfl | apply ClsC.fn | apply ClsC.fz rfl (ro_B _) | apply ClsC.fz rfl (ro_M _) | apply ClsC.fz rfl (ro_E _ _) | apply ClsC.fz rfl rfl))) rfl (by (repeat' (first | exact Bk.nil | apply Bk.cons rfl rfl rfl))) (by (repeat' (first | exact RnV.leaf rfl | exact RnC.nil | apply RnC.cons | apply RnV.ag | apply RnV.tu | exact RnV.bp rfl))) rfl ?_)
            | fail "no arm")
            all_goals (try simp only [nm, newS, plc, spl, bldA, bldS, zrow, chunks, ZC.val, Nat.reduceAdd, Nat.reduceSub, BEq.rfl])
            refine AP.nil ?_
            exact ⟨rfl, rfl⟩
          · intro h1 h2
            simp [depsOk, Region.binds] at h1 h2
            subst h1
            (repeat (obtain ⟨rfl, h2⟩ := h2))
            (try subst h2)
            clear hcl
            simp only [cond_true, cond_false, setT, List.set_cons_succ, List.set_cons_zero, List.getD_cons_succ, List.getD_cons_zero, List.set_cons_succ]
            (with_reducible apply AP.k_any); first | (refine AP.s1 rfl ?_ ?_; focus ((repeat' (with_reducible apply And.intro)) <;> (first | exact True.intro | exact rfl | omega | (simp; omega) | (simp; done) | assumption))) | fail "no step"
            all_goals (try simp only [nm, newS, plc, spl, bldA, bldS, zrow, chunks, ZC.val, Nat.reduceAdd, Nat.reduceSub, BEq.rfl])
            refine AP.nil ?_
            exact ⟨rfl, rfl⟩
          · intro h1 h2
            simp [depsOk, Region.binds] at h1 h2
            subst h1
            (repeat (obtain ⟨rfl, h2⟩ := h2))
            (try subst h2)
            (first | (obtain rfl : l3 = true := by grind only) | skip)
            (first | (obtain rfl : l5 = true := by grind only) | skip)
            (first | (obtain rfl : l9 = false := by grind only) | skip)
            (first | (obtain rfl : l10 = false := by grind only) | skip)
            (first | (obtain rfl : l12 = false := by grind only) | skip)
            clear hcl
            simp only [cond_true, cond_false, setT, List.set_cons_succ, List.set_cons_zero, List.getD_cons_succ, List.getD_cons_zero, List.set_cons_succ]
            (first
            | ((with_reducible apply AP.k_any); refine ap_callB 0 [(0, 0)] rfl rfl (fn := 67) rfl (rflag_ac _ g2) (by (repeat' (first | exact PasC.nil | apply PasC.nil | apply PasC.cons | apply PasV.leaf rfl | apply PasV.nl | apply PasV.bp rfl | apply PasV.lend rfl rfl rfl | apply PasV.lend rfl rfl (ro_B _) | apply PasV.lend rfl rfl (ro_M _) | apply PasV.lend rfl rfl (ro_E _ _) | apply PasV.lend rfl rfl (ro_I _) | apply PasV.mv rfl | apply PasV.ag | apply PasV.fn | exact PasV.fs | apply PasV.any))) (by (repeat' (first | exact Out.nil | apply Out.cons rfl | exact ClsC.nil | apply ClsC.nl | apply ClsC.leaf rfl | apply ClsC.hd rfl | apply ClsC.fn | apply ClsC.fz rfl (ro_B _) | apply ClsC.fz rfl (ro_M _) | apply ClsC.fz rfl (ro_E _ _) | apply ClsC.fz rfl rfl))) rfl (by (repeat' (first | exact Bk.nil | apply Bk.cons rfl rfl rfl))) (by (repeat' (first | exact RnV.leaf rfl | exact RnC.nil | apply RnC.cons | apply RnV.ag | apply RnV.tu | exact RnV.bp rfl))) rfl ?_)
            | fail "no arm")
            all_goals (try simp only [nm, newS, plc, spl, bldA, bldS, zrow, chunks, ZC.val, Nat.reduceAdd, Nat.reduceSub, BEq.rfl])
            refine AP.nil ?_
            exact ⟨rfl, rfl⟩
          · intro h1 h2
            simp [depsOk, Region.binds] at h1 h2
            subst h1
            (repeat (obtain ⟨rfl, h2⟩ := h2))
            (try subst h2)
            clear hcl
            simp only [cond_true, cond_false, setT, List.set_cons_succ, List.set_cons_zero, List.getD_cons_succ, List.getD_cons_zero, List.set_cons_succ]
            (with_reducible apply AP.k_any); first | (refine AP.s1 rfl ?_ ?_; focus ((repeat' (with_reducible apply And.intro)) <;> (first | exact True.intro | exact rfl | omega | (simp; omega) | (simp; done) | assumption))) | fail "no step"
            all_goals (try simp only [nm, newS, plc, spl, bldA, bldS, zrow, chunks, ZC.val, Nat.reduceAdd, Nat.reduceSub, BEq.rfl])
            refine AP.nil ?_
            exact ⟨rfl, rfl⟩
          · intro h1 h2
            simp [depsOk, Region.binds] at h1 h2
            subst h1
            (repeat (obtain ⟨rfl, h2⟩ := h2))
            (try subst h2)
            (first | (obtain rfl : l3 = true := by grind only) | skip)
            (first | (obtain rfl : l5 = true := by grind only) | skip)
            (first | (obtain rfl : l7 = true := by grind only) | skip)
            (first | (obtain rfl : l10 = false := by grind only) | skip)
            (first | (obtain rfl : l12 = false := by grind only) | skip)
            clear hcl
            simp only [cond_true, cond_false, setT, List.set_cons_succ, List.set_cons_zero, List.getD_cons_succ, List.getD_cons_zero, List.set_cons_succ]
            (with_reducible apply AP.k_any); first | refine ap_buildSlice rfl rfl rfl rfl rfl rfl rfl rfl rfl rfl rfl (by (repeat' (first | exact ClsC.nil | apply ClsC.leaf rfl | apply ClsC.hd rfl | apply ClsC.fn))) rfl ?_ | refine ap_bslB rfl rfl rfl rfl rfl rfl rfl rfl rfl rfl rfl ?_ | fail "no step"
            all_goals (try simp only [nm, newS, plc, spl, bldA, bldS, zrow, chunks, ZC.val, Nat.reduceAdd, Nat.reduceSub, BEq.rfl])
            refine AP.nil ?_
            exact ⟨rfl, rfl⟩
          · intro h1 h2
            simp [depsOk, Region.binds] at h1 h2
            subst h1
            (repeat (obtain ⟨rfl, h2⟩ := h2))
            (try subst h2)
            (first | (obtain rfl : l3 = true := by grind only) | skip)
            (first | (obtain rfl : l5 = true := by grind only) | skip)
            (first | (obtain rfl : l7 = true := by grind only) | skip)
            (first | (obtain rfl : l9 = true := by grind only) | skip)
            (first | (obtain rfl : l12 = false := by grind only) | skip)
            clear hcl
            simp only [cond_true, cond_false, setT, List.set_cons_succ, List.set_cons_zero, List.getD_cons_succ, List.getD_cons_zero, List.set_cons_succ]
            (with_reducible apply AP.k_any); first | refine ap_appendO rfl rfl rfl rfl rfl rfl rfl rfl rfl rfl rfl (by (first | omega | (simp; omega) | (simp; done) | assumption)) (.inl ⟨rfl, rfl⟩) ?_ | refine ap_appendO rfl rfl rfl rfl rfl rfl rfl rfl rfl rfl rfl (by (first | omega | (simp; omega) | (simp; done) | assumption)) (.inr ⟨_, _, rfl, rfl, rfl, rfl⟩) ?_ | refine ap_appendN rfl rfl rfl rfl rfl rfl rfl rfl rfl rfl (.inl ⟨rfl, rfl⟩) (by (first | omega | (simp; omega) | (simp; done) | assumption)) ?_ | refine ap_appendN rfl rfl rfl rfl rfl rfl rfl rfl rfl rfl (.inr ⟨_, _, rfl, rfl, rfl⟩) (by (first | omega | (simp; omega) | (simp; done) | assumption)) ?_ | refine ap_appendF rfl rfl rfl rfl rfl rfl rfl rfl rfl rfl (.inl ⟨rfl, rfl⟩) (by (first | omega | (simp; omega) | (simp; done) | assumption)) (by first | exact .inl rfl | exact .inr (by (first | omega | (simp; omega) | (simp; done) | assumption))) ?_ | refine ap_appendF rfl rfl rfl rfl rfl rfl rfl rfl rfl rfl (.inr ⟨_, _, rfl, rfl, rfl⟩) (by (first | omega | (simp; omega) | (simp; done) | assumption)) (by first | exact .inl rfl | exact .inr (by (first | omega | (simp; omega) | (simp; done) | assumption))) ?_ | fail "no step"
            all_goals (try simp only [nm, newS, plc, spl, bldA, bldS, zrow, chunks, ZC.val, Nat.reduceAdd, Nat.reduceSub, BEq.rfl])
            refine AP.nil ?_
            exact ⟨rfl, rfl⟩
          · intro h1 h2
            simp [depsOk, Region.binds] at h1 h2
            subst h1
            (repeat (obtain ⟨rfl, h2⟩ := h2))
            (try subst h2)
            clear hcl
            simp only [cond_true, cond_false, setT, List.set_cons_succ, List.set_cons_zero, List.getD_cons_succ, List.getD_cons_zero, List.set_cons_succ]
            (with_reducible apply AP.k_any); first | (refine AP.s1 rfl ?_ ?_; focus ((repeat' (with_reducible apply And.intro)) <;> (first | exact True.intro | exact rfl | omega | (simp; omega) | (simp; done) | assumption))) | fail "no step"
            all_goals (try simp only [nm, newS, plc, spl, bldA, bldS, zrow, chunks, ZC.val, Nat.reduceAdd, Nat.reduceSub, BEq.rfl])
            refine AP.nil ?_
            exact ⟨rfl, rfl⟩
          · intro h1 h2
            simp [depsOk, Region.binds] at h1 h2
            subst h1
            (repeat (obtain ⟨rfl, h2⟩ := h2))
            (try subst h2)
            (first | (obtain rfl : l3 = true := by grind only) | skip)
            (first | (obtain rfl : l5 = true := by grind only) | skip)
            (first | (obtain rfl : l7 = true := by grind only) | skip)
            (first | (obtain rfl : l9 = true := by grind only) | skip)
            (first | (obtain rfl : l10 = true := by grind only) | skip)
            clear hcl
            simp only [cond_true, cond_false, setT, List.set_cons_succ, List.set_cons_zero, List.getD_cons_succ, List.getD_cons_zero, List.set_cons_succ]
            (with_reducible apply AP.k_any); first | refine ap_store rfl rfl rfl rfl rfl rfl rfl rfl rfl ?_ | refine ap_storeE rfl rfl rfl rfl rfl rfl rfl rfl (by (first | (refine ⟨?_, ?_⟩; assumption; rfl) | exact ⟨mapAt (by (first | omega | (simp; omega) | (simp; done) | assumption)), rfl⟩ | exact ⟨rfl, rfl⟩)) (by exact rfl) ?_ | fail "no step"
            all_goals (try simp only [nm, newS, plc, spl, bldA, bldS, zrow, chunks, ZC.val, Nat.reduceAdd, Nat.reduceSub, BEq.rfl])
            refine AP.nil ?_
            exact ⟨rfl, rfl⟩
      repeat' (first
        | ((first
        | ((with_reducible apply AP.k_any); first
                 | (refine AP.s1 rfl ?_ ?_; focus ((repeat' (with_reducible apply And.intro)) <;> (first | exact True.intro | exact rfl | omega | (simp; omega) | (simp; done) | assumption)))
                 | refine ap_alloc rfl rfl rfl rfl ?_
                 | refine ap_store rfl rfl rfl rfl rfl rfl rfl rfl rfl ?_
                 | refine ap_buildSlice rfl rfl rfl rfl rfl rfl rfl rfl rfl rfl rfl (by (repeat' (first | exact ClsC.nil | apply ClsC.leaf rfl | apply ClsC.hd rfl | apply ClsC.fn))) rfl ?_ | refine ap_bslB rfl rfl rfl rfl rfl rfl rfl rfl rfl rfl rfl rfl ?_
                 | refine ap_appendO rfl rfl rfl rfl rfl rfl rfl rfl rfl rfl rfl (by (first | omega | (simp; omega) | (simp; done) | assumption)) (.inl ⟨rfl, rfl⟩) ?_ | refine ap_appendO rfl rfl rfl rfl rfl rfl rfl rfl rfl rfl rfl (by (first | omega | (simp; omega) | (simp; done) | assumption)) (.inr ⟨_, _, rfl, rfl, rfl, rfl⟩) ?_
                 | refine ap_appendN rfl rfl rfl rfl rfl rfl rfl rfl rfl rfl (.inl ⟨rfl, rfl⟩) (by (first | omega | (simp; omega) | (simp; done) | assumption)) ?_ | refine ap_appendN rfl rfl rfl rfl rfl rfl rfl rfl rfl rfl (.inr ⟨_, _, rfl, rfl, rfl⟩) (by (first | omega | (simp; omega) | (simp; done) | assumption)) ?_
                 | refine ap_appendF rfl rfl rfl rfl rfl rfl rfl rfl rfl rfl (.inl ⟨rfl, rfl⟩) (by (first | omega | (simp; omega) | (simp; done) | assumption)) (by first | exact .inl rfl | exact .inr (by (first | omega | (simp; omega) | (simp; done) | assumption))) ?_ | refine ap_appendF rfl rfl rfl rfl rfl rfl rfl rfl rfl rfl (.inr ⟨_, _, rfl, rfl, rfl⟩) (by (first | omega | (simp; omega) | (simp; done) | assumption)) (by first | exact .inl rfl | exact .inr (by (first | omega | (simp; omega) | (simp; done) | assumption))) ?_
                 | refine ap_appendH rfl rfl rfl rfl rfl rfl rfl rfl rfl rfl rfl (by (first | omega | (simp; omega) | (simp; done) | assumption)) (by (first | omega | (simp; omega) | (simp; done) | assumption)) (.inr ⟨_, _, rfl, rfl, rfl, rfl⟩) ?_
          )
        
        )
          <;> (try simp only [nm, newS, plc, spl, bldA, bldS, zrow, chunks, ZC.val, Nat.reduceAdd, Nat.reduceSub, BEq.rfl]))
        | ((with_reducible apply AP.k_nil); first
            | (refine AP.nil (hQ' _ ?_); clear hQ' Q')
            | refine AP.nil ?_)
        | ((with_reducible apply CP.k_reg); refine cp_regG fun Q' hQ' => ?_)
          | (with_reducible apply CP.k_reg1; refine cp_region ?_)
          | ((with_reducible apply CP.k_cond); first
              | refine cp_condT rfl ?_
              | refine cp_condF rfl ?_
              | refine cp_cond rfl (fun hc => ?_) (fun hc => ?_))
          | (with_reducible first | refine cp_block ?_ | refine cp_exit ?_ | refine cp_ret ?_ | refine cp_skip ?_ | refine cp_seq ?_ | refine inB_hit ?_ | refine inB_n ?_ | refine inB_r ?_ | refine thenQ_n ?_ | refine thenQ_r ?_ | refine thenQ_e ?_ | refine cpn_succ ?_)
          | (refine inB_miss rfl ?_))
      simp only [hw]
      refine ⟨(k + 1, u + 1, v + 1), by (dsimp only; omega), by (dsimp only; omega), ?_⟩
      dsimp only
      rw [hs1, hs2, List.map_append, List.map_cons, List.map_nil]
      (refine gh_wk ?_; (try simp only [setT, deT, setB, List.set_cons_succ, List.set_cons_zero]); (refine ⟨?_, ?_⟩ <;> (try dsimp only) <;> (repeat' (first | exact Wk.nil | exact WkB.nil | apply Wk.same | apply Wk.de | apply Wk.nl | apply WkB.same | apply WkB.drop))))
    · exfalso; simp at *; omega
  · obtain rfl : k = N := by omega
    refine CP.gh (gh_fz (b := 3) (u := u) rfl rfl (by (repeat' (first | exact FzC.nil | apply FzC.cons | exact FzV.hd | apply FzV.ag | exact FzV.same))) (by (repeat' (first | exact FzB.nil | apply FzB.c | apply FzB.same | exact FzC.nil | apply FzC.cons | exact FzV.hd | apply FzV.ag | exact FzV.same)))) ?_
    simp only [ro_M]
    repeat' (first
      | ((first
      | ((with_reducible apply AP.k_any); first
               | (refine AP.s1 rfl ?_ ?_; focus ((repeat' (with_reducible apply And.intro)) <;> (first | exact True.intro | exact rfl | omega | (simp; omega) | (simp; done) | assumption)))
               | refine ap_alloc rfl rfl rfl rfl ?_
               | refine ap_store rfl rfl rfl rfl rfl rfl rfl rfl rfl ?_
               | refine ap_buildSlice rfl rfl rfl rfl rfl rfl rfl rfl rfl rfl rfl (by (repeat' (first | exact ClsC.nil | apply ClsC.leaf rfl | apply ClsC.hd rfl | apply ClsC.fn))) rfl ?_ | refine ap_bslB rfl rfl rfl rfl rfl rfl rfl rfl rfl rfl rfl rfl ?_
               | refine ap_appendO rfl rfl rfl rfl rfl rfl rfl rfl rfl rfl rfl (by (first | omega | (simp; omega) | (simp; done) | assumption)) (.inl ⟨rfl, rfl⟩) ?_ | refine ap_appendO rfl rfl rfl rfl rfl rfl rfl rfl rfl rfl rfl (by (first | omega | (simp; omega) | (simp; done) | assumption)) (.inr ⟨_, _, rfl, rfl, rfl, rfl⟩) ?_
               | refine ap_appendN rfl rfl rfl rfl rfl rfl rfl rfl rfl rfl (.inl ⟨rfl, rfl⟩) (by (first | omega | (simp; omega) | (simp; done) | assumption)) ?_ | refine ap_appendN rfl rfl rfl rfl rfl rfl rfl rfl rfl rfl (.inr ⟨_, _, rfl, rfl, rfl⟩) (by (first | omega | (simp; omega) | (simp; done) | assumption)) ?_
               | refine ap_appendF rfl rfl rfl rfl rfl rfl rfl rfl rfl rfl (.inl ⟨rfl, rfl⟩) (by (first | omega | (simp; omega) | (simp; done) | assumption)) (by first | exact .inl rfl | exact .inr (by (first | omega | (simp; omega) | (simp; done) | assumption))) ?_ | refine ap_appendF rfl rfl rfl rfl rfl rfl rfl rfl rfl rfl (.inr ⟨_, _, rfl, rfl, rfl⟩) (by (first | omega | (simp; omega) | (simp; done) | assumption)) (by first | exact .inl rfl | exact .inr (by (first | omega | (simp; omega) | (simp; done) | assumption))) ?_
               | refine ap_appendH rfl rfl rfl rfl rfl rfl rfl rfl rfl rfl rfl (by (first | omega | (simp; omega) | (simp; done) | assumption)) (by (first | omega | (simp; omega) | (simp; done) | assumption)) (.inr ⟨_, _, rfl, rfl, rfl, rfl⟩) ?_
        )
      
      )
        <;> (try simp only [nm, newS, plc, spl, bldA, bldS, zrow, chunks, ZC.val, Nat.reduceAdd, Nat.reduceSub, BEq.rfl]))
      | ((with_reducible apply AP.k_nil); first
          | (refine AP.nil (hQ' _ ?_); clear hQ' Q')
          | refine AP.nil ?_)
      | ((with_reducible apply CP.k_reg); refine cp_regG fun Q' hQ' => ?_)
        | (with_reducible apply CP.k_reg1; refine cp_region ?_)
        | ((with_reducible apply CP.k_cond); first
            | refine cp_condT rfl ?_
            | refine cp_condF rfl ?_
            | refine cp_cond rfl (fun hc => ?_) (fun hc => ?_))
        | (with_reducible first | refine cp_block ?_ | refine cp_exit ?_ | refine cp_ret ?_ | refine cp_skip ?_ | refine cp_seq ?_ | refine inB_hit ?_ | refine inB_n ?_ | refine inB_r ?_ | refine thenQ_n ?_ | refine thenQ_r ?_ | refine thenQ_e ?_ | refine cpn_succ ?_)
        | (refine inB_miss rfl ?_))
    all_goals first
      | (exfalso; simp at *; done)
      | (exfalso; simp at *; omega)
      | apply RetQ.mk (ks := [(0, 0)]) (by first | exact .inr rfl | exact .inl rfl) (by exact ⟨rfl, rfl⟩)
        · (repeat' (first | exact RnV.leaf rfl | exact RnC.nil | apply RnC.cons | apply RnV.ag | apply RnV.tu | exact RnV.bp rfl))
        · (repeat' (first | exact ResL.nil | apply ResL.cons (Res1.row rfl rfl rfl rfl rfl) | apply ResL.cons (Res1.flat rfl rfl rfl rfl rfl) | apply ResL.cons (Res1.tmp (by (try simp only [List.getD_cons_succ, List.getD_cons_zero]); exact rfl))))
        · (repeat' (first | exact ClsC.nil | exact ClsL.nil | apply ClsC.nl | apply ClsC.leaf rfl | apply ClsC.hd rfl | apply ClsC.fn | apply ClsR.tu | apply ClsL.cons | apply ClsV.ag | exact ClsV.bp | exact ClsV.one (ClsC.leaf rfl ClsC.nil) | exact ClsV.one (ClsC.nl ClsC.nil) | exact ClsV.one (ClsC.hd rfl ClsC.nil) | apply ClsR.one))
        · (repeat' (first | exact Out.nil | apply Out.cons rfl | exact ClsC.nil | apply ClsC.nl | apply ClsC.leaf rfl | apply ClsC.hd rfl | apply ClsC.fn | apply ClsC.fz rfl (ro_B _) | apply ClsC.fz rfl (ro_M _) | apply ClsC.fz rfl (ro_E _ _) | apply ClsC.fz rfl rfl))
        · exact hks_of rfl
end Go.Proofs.Ytkdbedbefojieaa
