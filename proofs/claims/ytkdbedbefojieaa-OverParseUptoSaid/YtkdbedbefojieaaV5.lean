/-
  The document's records: the same, those that may be, their forms.
-/
import Derived.Test.YtkdbedbefojieaaV4
import Derived.Test.YtkdbedbefojieaaW9
import Derived.Test.YtkdbedbefojieaaC2
namespace Go.Proofs.Ytkdbedbefojieaa
set_option linter.unusedVariables false
set_option linter.unusedSimpArgs false
set_option maxHeartbeats 8000000
open Go.RowKit
set_option maxRecDepth 100000
def eqRec (a b : Record) : Bool := a.kind == b.kind && eqK a.book b.book && a.drop == b.drop && eqE a.entry b.entry
theorem eqRec_iff {a b : Record} : eqRec a b = true ↔ a = b := by
  cases a; cases b; simp [eqRec, eqK_iff, eqE_iff, and_assoc]
theorem u8_beq (a b : UInt8) : ((a.toNat : Int) == (b.toNat : Int)) = (a == b) := by
  rw [Bool.eq_iff_iff]; simp [← UInt8.toNat_inj]; omega
theorem u8_one (x : UInt8) : ((x.toNat : Int) = 1) ↔ x = 1 := by rw [← UInt8.toNat_inj]; simp; omega
theorem u8_two (x : UInt8) : ((x.toNat : Int) = 2) ↔ x = 2 := by rw [← UInt8.toNat_inj]; simp; omega
theorem u8_three (x : UInt8) : ((x.toNat : Int) = 3) ↔ x = 3 := by rw [← UInt8.toNat_inj]; simp; omega
theorem u8_four (x : UInt8) : ((x.toNat : Int) = 4) ↔ x = 4 := by rw [← UInt8.toNat_inj]; simp; omega
theorem dsame_ac (a b : Record) (ha : a.book.cfg.members.length ≤ 1000000000) (hb : a.entry.body.length ≤ 1000000000) : AC Try.prog 34 [.ag (eR a), .ag (eR b)] [] (fun v bs => v = B (eqRec a b) ∧ bs = []) := by
  refine AC.enter Try.func34 rfl rfl Try.ntmps34 (fl1_all rfl) (by (repeat' (first | exact Bk.nil | apply Bk.cons rfl rfl rfl))) ?_
  intro X
  simp only [nm, newS, plc, spl, bldA, bldS, zrow, chunks, ZC.val, Nat.reduceAdd, Nat.reduceSub, BEq.rfl]
  repeat' (first
    | ((first
    | ((with_reducible apply AP.k_any); first
             | (refine AP.s1 rfl ?_ ?_; focus ((repeat' (with_reducible apply And.intro)) <;> (first | exact True.intro | exact rfl | omega | (simp; omega) | (simp; done) | assumption)))
             | (refine AP.gyes rfl rfl rfl ?_; dsimp only) | refine AP.gno rfl rfl rfl rfl ?_ | refine AP.gund rfl rfl rfl ?_ | (refine AP.gsplit rfl rfl rfl (fun hg => ?_) (fun hg => ?_))
             | refine ap_box rfl rfl rfl rfl ?_
      )
    | ((with_reducible apply AP.k_any); refine ap_callX rfl rfl (fn := 14) rfl (sameBook_ac a.book b.book ha) (by (repeat' (first | exact PasC.nil | apply PasC.nil | apply PasC.cons | apply PasV.leaf rfl | apply PasV.nl | apply PasV.bp rfl | apply PasV.lend rfl rfl rfl | apply PasV.lend rfl rfl (ro_B _) | apply PasV.lend rfl rfl (ro_M _) | apply PasV.lend rfl rfl (ro_E _ _) | apply PasV.lend rfl rfl (ro_I _) | apply PasV.mv rfl | apply PasV.ag | apply PasV.fn | exact PasV.fs | apply PasV.any))) rfl rfl ?_)
    | ((with_reducible apply AP.k_any); refine ap_callX rfl rfl (fn := 77) rfl (sameEntry_ac a.entry b.entry hb) (by (repeat' (first | exact PasC.nil | apply PasC.nil | apply PasC.cons | apply PasV.leaf rfl | apply PasV.nl | apply PasV.bp rfl | apply PasV.lend rfl rfl rfl | apply PasV.lend rfl rfl (ro_B _) | apply PasV.lend rfl rfl (ro_M _) | apply PasV.lend rfl rfl (ro_E _ _) | apply PasV.lend rfl rfl (ro_I _) | apply PasV.mv rfl | apply PasV.ag | apply PasV.fn | exact PasV.fs | apply PasV.any))) rfl rfl ?_)
    )
      <;> (try simp only [nm, newS, plc, spl, bldA, bldS, zrow, chunks, ZC.val, Nat.reduceAdd, Nat.reduceSub, BEq.rfl]))
    | ((with_reducible apply AP.k_nil); first
        | (refine AP.nil (hQ' _ ?_); clear hQ' Q')
        | refine AP.nil ?_)
    | ((with_reducible apply CP.k_reg); refine cp_regG fun Q' hQ' => ?_)
      | (with_reducible apply CP.k_reg1; refine cp_region ?_)
      | ((with_reducible apply CP.k_cond); first
          | refine cp_condT rfl ?_
          | refine cp_condF rfl ?_
          | refine cp_cond rfl (fun hc => ?_) (fun hc => ?_))
      | (with_reducible first | refine cp_block ?_ | refine cp_exit ?_ | refine cp_ret ?_ | refine cp_skip ?_ | refine cp_seq ?_ | refine inB_hit ?_ | refine inB_n ?_ | refine inB_r ?_ | refine thenQ_n ?_ | refine thenQ_r ?_ | refine thenQ_e ?_ | refine cpn_succ ?_)
      | (refine inB_miss rfl ?_))
  all_goals apply RetQ.mk (ks := []) (by first | exact .inr rfl | exact .inl rfl)
            case hl => (repeat' (first | exact ResL.nil | apply ResL.cons (Res1.row rfl rfl rfl rfl rfl) | apply ResL.cons (Res1.flat rfl rfl rfl rfl rfl) | apply ResL.cons (Res1.tmp (by (try simp only [List.getD_cons_succ, List.getD_cons_zero]); exact rfl))))
            case hc => (repeat' (first | exact ClsC.nil | exact ClsL.nil | apply ClsC.nl | apply ClsC.leaf rfl | apply ClsC.hd rfl | apply ClsC.fn | apply ClsR.tu | apply ClsL.cons | apply ClsV.ag | exact ClsV.bp | exact ClsV.one (ClsC.leaf rfl ClsC.nil) | exact ClsV.one (ClsC.nl ClsC.nil) | exact ClsV.one (ClsC.hd rfl ClsC.nil) | apply ClsR.one))
            case hr => (repeat' (first | exact RnV.leaf rfl | exact RnC.nil | apply RnC.cons | apply RnV.ag | apply RnV.tu | exact RnV.bp rfl))
            case ho => (repeat' (first | exact Out.nil | apply Out.cons rfl | exact ClsC.nil | apply ClsC.nl | apply ClsC.leaf rfl | apply ClsC.hd rfl | apply ClsC.fn | apply ClsC.fz rfl (ro_B _) | apply ClsC.fz rfl (ro_M _) | apply ClsC.fz rfl (ro_E _ _) | apply ClsC.fz rfl rfl))
            case hk => exact hks_of rfl
            case hq => (try dsimp only [resV, List.getD_cons_succ, List.getD_cons_zero]); (refine ⟨?_, rfl⟩; simp only [u8_beq] at *; simp_all [eqRec])
def recForm (r : Record) : List UInt8 :=
  [r.kind] ++ (if r.kind = 1 then configF r.book.cfg ++ intS r.book.since ++ flagS r.book.whole ++ intS r.book.upto ++ flagS r.drop else if r.kind = 2 then entryF r.entry else [])
theorem dform_ac (r : Record) (hl : r.book.cfg.members.length ≤ 1000000) (hb : r.entry.body.length ≤ 10000000) : AC Try.prog 31 [.ag (eR r)] [] (fun v bs' => v = bs (some tU) (recForm r) ∧ bs' = []) := by
  have h1 := (dconfig_ac r.book.cfg hl).ro (r2 := bs none (configF r.book.cfg)) (by simp only [AV.ro, ro_B])
  have h2 := (dflag_ac r.book.whole).ro (r2 := bs none (flagS r.book.whole)) (by simp only [AV.ro, ro_B])
  have h3 := (dflag_ac r.drop).ro (r2 := bs none (flagS r.drop)) (by simp only [AV.ro, ro_B])
  have h4 := (dentry_ac r.entry hb).ro (r2 := bs none (entryF r.entry)) (by simp only [AV.ro, ro_B])
  have l1 := configF_length r.book.cfg
  have l2 : (entryF r.entry).length = 36 + r.entry.body.length := by simp [entryF, intS_length, restF_length]; omega
  have l3 := intS_length r.book.since
  have l4 := intS_length r.book.upto
  have l5 := flagS_length r.book.whole
  have l6 := flagS_length r.drop
  refine AC.enter Try.func31 rfl rfl Try.ntmps31 (fl1_all rfl) (by (repeat' (first | exact Bk.nil | apply Bk.cons rfl rfl rfl))) ?_
  intro X
  simp only [nm, newS, plc, spl, bldA, bldS, zrow, chunks, ZC.val, Nat.reduceAdd, Nat.reduceSub, BEq.rfl]
  repeat' (first
    | ((first
    | ((with_reducible apply AP.k_any); first
             | (refine AP.s1 rfl ?_ ?_; focus ((repeat' (with_reducible apply And.intro)) <;> (first | exact True.intro | exact rfl | omega | (simp; omega) | (simp; done) | assumption)))
             | refine ap_box rfl rfl rfl rfl ?_
             | refine ap_buildSlice rfl rfl rfl rfl rfl rfl rfl rfl rfl rfl rfl (by (repeat' (first | exact ClsC.nil | apply ClsC.leaf rfl | apply ClsC.hd rfl | apply ClsC.fn))) rfl ?_ | refine ap_bslB rfl rfl rfl rfl rfl rfl rfl rfl rfl rfl rfl rfl ?_
             | refine ap_appendO rfl rfl rfl rfl rfl rfl rfl rfl rfl rfl rfl (by (first | omega | (simp; omega) | (simp; done) | assumption)) (.inl ⟨rfl, rfl⟩) ?_ | refine ap_appendO rfl rfl rfl rfl rfl rfl rfl rfl rfl rfl rfl (by (first | omega | (simp; omega) | (simp; done) | assumption)) (.inr ⟨_, _, rfl, rfl, rfl, rfl⟩) ?_
             | refine ap_appendN rfl rfl rfl rfl rfl rfl rfl rfl rfl rfl (.inl ⟨rfl, rfl⟩) (by (first | omega | (simp; omega) | (simp; done) | assumption)) ?_ | refine ap_appendN rfl rfl rfl rfl rfl rfl rfl rfl rfl rfl (.inr ⟨_, _, rfl, rfl, rfl⟩) (by (first | omega | (simp; omega) | (simp; done) | assumption)) ?_
             | refine ap_appendF rfl rfl rfl rfl rfl rfl rfl rfl rfl rfl (.inl ⟨rfl, rfl⟩) (by (first | omega | (simp; omega) | (simp; done) | assumption)) (by first | exact .inl rfl | exact .inr (by (first | omega | (simp; omega) | (simp; done) | assumption))) ?_ | refine ap_appendF rfl rfl rfl rfl rfl rfl rfl rfl rfl rfl (.inr ⟨_, _, rfl, rfl, rfl⟩) (by (first | omega | (simp; omega) | (simp; done) | assumption)) (by first | exact .inl rfl | exact .inr (by (first | omega | (simp; omega) | (simp; done) | assumption))) ?_
             | refine ap_appendH rfl rfl rfl rfl rfl rfl rfl rfl rfl rfl rfl (by (first | omega | (simp; omega) | (simp; done) | assumption)) (by (first | omega | (simp; omega) | (simp; done) | assumption)) (.inr ⟨_, _, rfl, rfl, rfl, rfl⟩) ?_
             | (refine ap_nilsl rfl rfl rfl rfl rfl rfl (by first | exact .inl rfl | exact .inr rfl) (fun c hnil => ?_); simp only [nz])
      )
    | ((with_reducible apply AP.k_any); refine ap_callX rfl rfl (fn := 59) rfl (h1) (by (repeat' (first | exact PasC.nil | apply PasC.nil | apply PasC.cons | apply PasV.leaf rfl | apply PasV.nl | apply PasV.bp rfl | apply PasV.lend rfl rfl rfl | apply PasV.lend rfl rfl (ro_B _) | apply PasV.lend rfl rfl (ro_M _) | apply PasV.lend rfl rfl (ro_E _ _) | apply PasV.lend rfl rfl (ro_I _) | apply PasV.mv rfl | apply PasV.ag | apply PasV.fn | exact PasV.fs | apply PasV.any))) rfl rfl ?_)
    | ((with_reducible apply AP.k_any); refine ap_callX rfl rfl (fn := 60) rfl (dint_ac r.book.since) (by (repeat' (first | exact PasC.nil | apply PasC.nil | apply PasC.cons | apply PasV.leaf rfl | apply PasV.nl | apply PasV.bp rfl | apply PasV.lend rfl rfl rfl | apply PasV.lend rfl rfl (ro_B _) | apply PasV.lend rfl rfl (ro_M _) | apply PasV.lend rfl rfl (ro_E _ _) | apply PasV.lend rfl rfl (ro_I _) | apply PasV.mv rfl | apply PasV.ag | apply PasV.fn | exact PasV.fs | apply PasV.any))) rfl rfl ?_)
    | ((with_reducible apply AP.k_any); refine ap_callX rfl rfl (fn := 61) rfl (h2) (by (repeat' (first | exact PasC.nil | apply PasC.nil | apply PasC.cons | apply PasV.leaf rfl | apply PasV.nl | apply PasV.bp rfl | apply PasV.lend rfl rfl rfl | apply PasV.lend rfl rfl (ro_B _) | apply PasV.lend rfl rfl (ro_M _) | apply PasV.lend rfl rfl (ro_E _ _) | apply PasV.lend rfl rfl (ro_I _) | apply PasV.mv rfl | apply PasV.ag | apply PasV.fn | exact PasV.fs | apply PasV.any))) rfl rfl ?_)
    | ((with_reducible apply AP.k_any); refine ap_callX rfl rfl (fn := 60) rfl (dint_ac r.book.upto) (by (repeat' (first | exact PasC.nil | apply PasC.nil | apply PasC.cons | apply PasV.leaf rfl | apply PasV.nl | apply PasV.bp rfl | apply PasV.lend rfl rfl rfl | apply PasV.lend rfl rfl (ro_B _) | apply PasV.lend rfl rfl (ro_M _) | apply PasV.lend rfl rfl (ro_E _ _) | apply PasV.lend rfl rfl (ro_I _) | apply PasV.mv rfl | apply PasV.ag | apply PasV.fn | exact PasV.fs | apply PasV.any))) rfl rfl ?_)
    | ((with_reducible apply AP.k_any); refine ap_callX rfl rfl (fn := 61) rfl (h3) (by (repeat' (first | exact PasC.nil | apply PasC.nil | apply PasC.cons | apply PasV.leaf rfl | apply PasV.nl | apply PasV.bp rfl | apply PasV.lend rfl rfl rfl | apply PasV.lend rfl rfl (ro_B _) | apply PasV.lend rfl rfl (ro_M _) | apply PasV.lend rfl rfl (ro_E _ _) | apply PasV.lend rfl rfl (ro_I _) | apply PasV.mv rfl | apply PasV.ag | apply PasV.fn | exact PasV.fs | apply PasV.any))) rfl rfl ?_)
    | ((with_reducible apply AP.k_any); refine ap_callX rfl rfl (fn := 62) rfl (h4) (by (repeat' (first | exact PasC.nil | apply PasC.nil | apply PasC.cons | apply PasV.leaf rfl | apply PasV.nl | apply PasV.bp rfl | apply PasV.lend rfl rfl rfl | apply PasV.lend rfl rfl (ro_B _) | apply PasV.lend rfl rfl (ro_M _) | apply PasV.lend rfl rfl (ro_E _ _) | apply PasV.lend rfl rfl (ro_I _) | apply PasV.mv rfl | apply PasV.ag | apply PasV.fn | exact PasV.fs | apply PasV.any))) rfl rfl ?_)
    )
      <;> (try simp only [nm, newS, plc, spl, bldA, bldS, zrow, chunks, ZC.val, Nat.reduceAdd, Nat.reduceSub, BEq.rfl]))
    | ((with_reducible apply AP.k_nil); first
        | (refine AP.nil (hQ' _ ?_); clear hQ' Q')
        | refine AP.nil ?_)
    | ((with_reducible apply CP.k_reg); refine cp_regG fun Q' hQ' => ?_)
      | (with_reducible apply CP.k_reg1; refine cp_region ?_)
      | ((with_reducible apply CP.k_cond); first
          | refine cp_condT rfl ?_
          | refine cp_condF rfl ?_
          | refine cp_cond rfl (fun hc => ?_) (fun hc => ?_))
      | (with_reducible first | refine cp_block ?_ | refine cp_exit ?_ | refine cp_ret ?_ | refine cp_skip ?_ | refine cp_seq ?_ | refine inB_hit ?_ | refine inB_n ?_ | refine inB_r ?_ | refine thenQ_n ?_ | refine thenQ_r ?_ | refine thenQ_e ?_ | refine cpn_succ ?_)
      | (refine inB_miss rfl ?_))
  · have hk : r.kind = 1 := by simpa [u8_one] using hc
    apply RetQ.mk (ks := []) (by first | exact .inr rfl | exact .inl rfl)
    case hl => (repeat' (first | exact ResL.nil | apply ResL.cons (Res1.row rfl rfl rfl rfl rfl) | apply ResL.cons (Res1.flat rfl rfl rfl rfl rfl) | apply ResL.cons (Res1.tmp (by (try simp only [List.getD_cons_succ, List.getD_cons_zero]); exact rfl))))
    case hc => (repeat' (first | exact ClsC.nil | exact ClsL.nil | apply ClsC.nl | apply ClsC.leaf rfl | apply ClsC.hd rfl | apply ClsC.fn | apply ClsR.tu | apply ClsL.cons | apply ClsV.ag | exact ClsV.bp | exact ClsV.one (ClsC.leaf rfl ClsC.nil) | exact ClsV.one (ClsC.nl ClsC.nil) | exact ClsV.one (ClsC.hd rfl ClsC.nil) | apply ClsR.one))
    case hr => (repeat' (first | exact RnV.leaf rfl | exact RnC.nil | apply RnC.cons | apply RnV.ag | apply RnV.tu | exact RnV.bp rfl))
    case ho => (repeat' (first | exact Out.nil | apply Out.cons rfl | exact ClsC.nil | apply ClsC.nl | apply ClsC.leaf rfl | apply ClsC.hd rfl | apply ClsC.fn | apply ClsC.fz rfl (ro_B _) | apply ClsC.fz rfl (ro_M _) | apply ClsC.fz rfl (ro_E _ _) | apply ClsC.fz rfl rfl))
    case hk => exact hks_of rfl
    case hq => (try dsimp only [resV, List.getD_cons_succ, List.getD_cons_zero]); exact ⟨by simp [recForm, hk], rfl⟩
  · have hk : r.kind = 2 := by simpa [u8_two] using hc
    apply RetQ.mk (ks := []) (by first | exact .inr rfl | exact .inl rfl)
    case hl => (repeat' (first | exact ResL.nil | apply ResL.cons (Res1.row rfl rfl rfl rfl rfl) | apply ResL.cons (Res1.flat rfl rfl rfl rfl rfl) | apply ResL.cons (Res1.tmp (by (try simp only [List.getD_cons_succ, List.getD_cons_zero]); exact rfl))))
    case hc => (repeat' (first | exact ClsC.nil | exact ClsL.nil | apply ClsC.nl | apply ClsC.leaf rfl | apply ClsC.hd rfl | apply ClsC.fn | apply ClsR.tu | apply ClsL.cons | apply ClsV.ag | exact ClsV.bp | exact ClsV.one (ClsC.leaf rfl ClsC.nil) | exact ClsV.one (ClsC.nl ClsC.nil) | exact ClsV.one (ClsC.hd rfl ClsC.nil) | apply ClsR.one))
    case hr => (repeat' (first | exact RnV.leaf rfl | exact RnC.nil | apply RnC.cons | apply RnV.ag | apply RnV.tu | exact RnV.bp rfl))
    case ho => (repeat' (first | exact Out.nil | apply Out.cons rfl | exact ClsC.nil | apply ClsC.nl | apply ClsC.leaf rfl | apply ClsC.hd rfl | apply ClsC.fn | apply ClsC.fz rfl (ro_B _) | apply ClsC.fz rfl (ro_M _) | apply ClsC.fz rfl (ro_E _ _) | apply ClsC.fz rfl rfl))
    case hk => exact hks_of rfl
    case hq => (try dsimp only [resV, List.getD_cons_succ, List.getD_cons_zero]); exact ⟨by simp [recForm, hk], rfl⟩
  · rename_i hc1
    have hk : ¬ r.kind = 2 := by simpa [u8_two] using hc
    have hk1 : ¬ r.kind = 1 := by simpa [u8_one] using hc1
    apply RetQ.mk (ks := []) (by first | exact .inr rfl | exact .inl rfl)
    case hl => (repeat' (first | exact ResL.nil | apply ResL.cons (Res1.row rfl rfl rfl rfl rfl) | apply ResL.cons (Res1.flat rfl rfl rfl rfl rfl) | apply ResL.cons (Res1.tmp (by (try simp only [List.getD_cons_succ, List.getD_cons_zero]); exact rfl))))
    case hc => (repeat' (first | exact ClsC.nil | exact ClsL.nil | apply ClsC.nl | apply ClsC.leaf rfl | apply ClsC.hd rfl | apply ClsC.fn | apply ClsR.tu | apply ClsL.cons | apply ClsV.ag | exact ClsV.bp | exact ClsV.one (ClsC.leaf rfl ClsC.nil) | exact ClsV.one (ClsC.nl ClsC.nil) | exact ClsV.one (ClsC.hd rfl ClsC.nil) | apply ClsR.one))
    case hr => (repeat' (first | exact RnV.leaf rfl | exact RnC.nil | apply RnC.cons | apply RnV.ag | apply RnV.tu | exact RnV.bp rfl))
    case ho => (repeat' (first | exact Out.nil | apply Out.cons rfl | exact ClsC.nil | apply ClsC.nl | apply ClsC.leaf rfl | apply ClsC.hd rfl | apply ClsC.fn | apply ClsC.fz rfl (ro_B _) | apply ClsC.fz rfl (ro_M _) | apply ClsC.fz rfl (ro_E _ _) | apply ClsC.fz rfl rfl))
    case hk => exact hks_of rfl
    case hq => (try dsimp only [resV, List.getD_cons_succ, List.getD_cons_zero]); exact ⟨by simp [recForm, hk, hk1], rfl⟩
theorem noE_iff (r : Record) : noE r = true ↔ r.entry = ent0 := by
  obtain ⟨k, b, d, ⟨e1, e2, e3, e4, e5⟩⟩ := r
  simp [noE, ent0, and_assoc]
theorem noB_iff (r : Record) : noB r = true ↔ r.book = book0 ∧ r.drop = false := by
  obtain ⟨k, ⟨⟨e, l⟩, s, w, u⟩, d, x⟩ := r
  cases w <;> cases d <;> simp [noB, book0, and_assoc]
theorem eqRec_1 (r : Record) : eqRec r ⟨r.kind, r.book, r.drop, ent0⟩ = noE r := by
  rw [Bool.eq_iff_iff, eqRec_iff, noE_iff]
  obtain ⟨k, b, d, e⟩ := r
  simp
theorem eqRec_2 (r : Record) : eqRec r ⟨r.kind, book0, false, r.entry⟩ = noB r := by
  rw [Bool.eq_iff_iff, eqRec_iff, noB_iff]
  obtain ⟨k, b, d, e⟩ := r
  simp
theorem eqRec_3 (r : Record) : eqRec r ⟨r.kind, book0, false, ent0⟩ = (noB r && noE r) := by
  rw [Bool.eq_iff_iff, eqRec_iff, Bool.and_eq_true, noB_iff, noE_iff]
  obtain ⟨k, b, d, e⟩ := r
  simp [and_assoc]
theorem dmay_ac (r : Record) (hl : r.book.cfg.members.length ≤ 1000000) (hb : r.entry.body.length ≤ 10000000) : AC Try.prog 29 [.ag (eR r)] [] (fun v bs' => v = B (mayR r) ∧ bs' = []) := by
  have hl9 : r.book.cfg.members.length ≤ 1000000000 := by omega
  have hl8 : r.book.cfg.members.length ≤ 100000000 := by omega
  have hb9 : r.entry.body.length ≤ 1000000000 := by omega
  have g1 := dsame_ac r ⟨r.kind, r.book, r.drop, ent0⟩ hl9 hb9
  have g2 := dsame_ac r ⟨r.kind, book0, false, r.entry⟩ hl9 hb9
  have g3 := dsame_ac r ⟨r.kind, book0, false, ent0⟩ hl9 hb9
  rw [eqRec_1] at g1
  rw [eqRec_2] at g2
  rw [eqRec_3] at g3
  refine AC.enter Try.func29 rfl rfl Try.ntmps29 (fl1_all rfl) (by (repeat' (first | exact Bk.nil | apply Bk.cons rfl rfl rfl))) ?_
  intro X
  simp only [nm, newS, plc, spl, bldA, bldS, zrow, chunks, ZC.val, Nat.reduceAdd, Nat.reduceSub, BEq.rfl]
  repeat' (first
    | ((first
    | ((with_reducible apply AP.k_any); first
             | (refine AP.s1 rfl ?_ ?_; focus ((repeat' (with_reducible apply And.intro)) <;> (first | exact True.intro | exact rfl | omega | (simp; omega) | (simp; done) | assumption)))
             | (refine AP.gyes rfl rfl rfl ?_; dsimp only) | refine AP.gno rfl rfl rfl rfl ?_ | refine AP.gund rfl rfl rfl ?_ | (refine AP.gsplit rfl rfl rfl (fun hg => ?_) (fun hg => ?_))
             | refine ap_box rfl rfl rfl rfl ?_
             | refine ap_alloc rfl rfl rfl rfl ?_
             | refine ap_store rfl rfl rfl rfl rfl rfl rfl rfl rfl ?_
      )
    | ((with_reducible apply AP.k_any); refine ap_callX rfl rfl (fn := 34) rfl (g2) (by (repeat' (first | exact PasC.nil | apply PasC.nil | apply PasC.cons | apply PasV.leaf rfl | apply PasV.nl | apply PasV.bp rfl | apply PasV.lend rfl rfl rfl | apply PasV.lend rfl rfl (ro_B _) | apply PasV.lend rfl rfl (ro_M _) | apply PasV.lend rfl rfl (ro_E _ _) | apply PasV.lend rfl rfl (ro_I _) | apply PasV.mv rfl | apply PasV.ag | apply PasV.fn | exact PasV.fs | apply PasV.any))) rfl rfl ?_)
    | ((with_reducible apply AP.k_any); refine ap_callX rfl rfl (fn := 34) rfl (g3) (by (repeat' (first | exact PasC.nil | apply PasC.nil | apply PasC.cons | apply PasV.leaf rfl | apply PasV.nl | apply PasV.bp rfl | apply PasV.lend rfl rfl rfl | apply PasV.lend rfl rfl (ro_B _) | apply PasV.lend rfl rfl (ro_M _) | apply PasV.lend rfl rfl (ro_E _ _) | apply PasV.lend rfl rfl (ro_I _) | apply PasV.mv rfl | apply PasV.ag | apply PasV.fn | exact PasV.fs | apply PasV.any))) rfl rfl ?_)
    | ((with_reducible apply AP.k_any); refine ap_callX rfl rfl (fn := 58) rfl (dmayEntry_ac r.entry) (by (repeat' (first | exact PasC.nil | apply PasC.nil | apply PasC.cons | apply PasV.leaf rfl | apply PasV.nl | apply PasV.bp rfl | apply PasV.lend rfl rfl rfl | apply PasV.lend rfl rfl (ro_B _) | apply PasV.lend rfl rfl (ro_M _) | apply PasV.lend rfl rfl (ro_E _ _) | apply PasV.lend rfl rfl (ro_I _) | apply PasV.mv rfl | apply PasV.ag | apply PasV.fn | exact PasV.fs | apply PasV.any))) rfl rfl ?_)
    )
      <;> (try simp only [nm, newS, plc, spl, bldA, bldS, zrow, chunks, ZC.val, Nat.reduceAdd, Nat.reduceSub, BEq.rfl]))
    | ((with_reducible apply AP.k_nil); first
        | (refine AP.nil (hQ' _ ?_); clear hQ' Q')
        | refine AP.nil ?_)
    | ((with_reducible apply CP.k_reg); refine cp_regG fun Q' hQ' => ?_)
      | (with_reducible apply CP.k_reg1; refine cp_region ?_)
      | ((with_reducible apply CP.k_cond); first
          | refine cp_condT rfl ?_
          | refine cp_condF rfl ?_
          | refine cp_cond rfl (fun hc => ?_) (fun hc => ?_))
      | (with_reducible first | refine cp_block ?_ | refine cp_exit ?_ | refine cp_ret ?_ | refine cp_skip ?_ | refine cp_seq ?_ | refine inB_hit ?_ | refine inB_n ?_ | refine inB_r ?_ | refine thenQ_n ?_ | refine thenQ_r ?_ | refine thenQ_e ?_ | refine cpn_succ ?_)
      | (refine inB_miss rfl ?_))
  · have hk : (r.kind.toNat : Int) = 1 := by simpa using hc
    refine cp_drawI (fun zs zb => ⟨setT zs.t [(12, cond (zb.getD 0 false) (.bp 0 1 1) (.tu [])), (13, cond (zb.getD 1 false) (.ag (eK none r.book)) (.tu [])), (14, cond (zb.getD 2 false) (.bp 0 1 6) (.tu [])), (15, cond (zb.getD 3 false) (B r.drop) (.tu [])), (16, cond (zb.getD 4 false) (.bp 1 1 1) (.tu [])), (17, cond (zb.getD 6 false) (.bp 1 1 6) (.tu []))], (zs.b.set 1 (cond (zb.getD 7 false) (⟨1, .c 43 [U r.kind, I r.book.cfg.epoch, ms none r.book.cfg.members, I r.book.since, B r.book.whole, I r.book.upto, B r.drop, I 0, I 0, I 0, I 0, .sc (.slice none 0 0)]⟩) (cond (zb.getD 5 false) (⟨1, .c 43 [U r.kind, I r.book.cfg.epoch, ms none r.book.cfg.members, I r.book.since, B r.book.whole, I r.book.upto, B false, I 0, I 0, I 0, I 0, .sc (.slice none 0 0)]⟩) (zs.b.getD 1 ⟨0, .x⟩))))⟩) (by kernel_rfl) (by kernel_rfl) (by kernel_rfl) ?_ ?_
    rotate_left
    simp only [cond_true, cond_false, setT, List.set_cons_succ, List.set_cons_zero, List.getD_cons_succ, List.getD_cons_zero, List.set_cons_succ, List.length_cons, List.length_nil, List.replicate_succ, List.replicate_zero, Nat.reduceAdd]
    rotate_left
    · intro b hb' hcl
      obtain ⟨l0, b0, rfl, hb0⟩ := len_cons hb'
      obtain ⟨l1, b1, rfl, hb1⟩ := len_cons hb0
      obtain ⟨l2, b2, rfl, hb2⟩ := len_cons hb1
      obtain ⟨l3, b3, rfl, hb3⟩ := len_cons hb2
      obtain ⟨l4, b4, rfl, hb4⟩ := len_cons hb3
      obtain ⟨l5, b5, rfl, hb5⟩ := len_cons hb4
      obtain ⟨l6, b6, rfl, hb6⟩ := len_cons hb5
      obtain ⟨l7, b7, rfl, hb7⟩ := len_cons hb6
      obtain rfl := List.length_eq_zero_iff.1 hb7
      clear hb' hb0 hb1 hb2 hb3 hb4 hb5 hb6 hb7
      · simp only [closedB, depsOk, Region.binds, List.toList_toArray, List.all_cons, List.all_nil, List.getD_cons_succ, List.getD_cons_zero, Bool.not_true, Bool.not_false, Bool.true_or, Bool.false_or, Bool.and_true, Bool.true_and, Bool.or_true, Bool.and_false, Bool.or_false, Bool.false_and, Bool.and_eq_true, Bool.or_eq_true, Bool.not_eq_true'] at hcl
        simp only [StepsP]
        refine ⟨?_, ?_, ?_, ?_, ?_, ?_, ?_, ?_, trivial⟩
        · intro h1 h2
          simp [depsOk, Region.binds] at h1 h2
          subst h1
          (repeat (obtain ⟨rfl, h2⟩ := h2))
          (try subst h2)
          clear hcl
          simp only [cond_true, cond_false, setT, List.set_cons_succ, List.set_cons_zero, List.getD_cons_succ, List.getD_cons_zero, List.set_cons_succ]
          (with_reducible apply AP.k_any); first | (refine AP.s1 rfl ?_ ?_; focus ((repeat' (with_reducible apply And.intro)) <;> (first | exact True.intro | exact rfl | omega | (simp; omega) | (simp; done) | assumption))) | fail "no step"
          all_goals (try simp only [nm, newS, plc, spl, bldA, bldS, zrow, chunks, ZC.val, Nat.reduceAdd, Nat.reduceSub, BEq.rfl])
          refine AP.nil ?_
          exact ⟨rfl, rfl⟩
        · intro h1 h2
          simp [depsOk, Region.binds] at h1 h2
          subst h1
          (repeat (obtain ⟨rfl, h2⟩ := h2))
          (try subst h2)
          (first | (obtain rfl : l5 = false := by grind only) | skip)
          (first | (obtain rfl : l7 = false := by grind only) | skip)
          clear hcl
          simp only [cond_true, cond_false, setT, List.set_cons_succ, List.set_cons_zero, List.getD_cons_succ, List.getD_cons_zero, List.set_cons_succ]
          (with_reducible apply AP.k_any); first | (refine AP.s1 rfl ?_ ?_; focus ((repeat' (with_reducible apply And.intro)) <;> (first | exact True.intro | exact rfl | omega | (simp; omega) | (simp; done) | assumption))) | refine AP.pure rfl (pq_load1_rp rfl rfl rfl rfl (by (first | (refine ⟨?_, ?_⟩; assumption; rfl) | exact ⟨mapAt (by (first | omega | (simp; omega) | (simp; done) | assumption)), rfl⟩ | exact ⟨rfl, rfl⟩))) ?_ | refine AP.pure rfl (pq_loadN_rp rfl rfl rfl rfl (by (first | (refine ⟨?_, ?_⟩; assumption; rfl) | exact ⟨mapAt (by (first | omega | (simp; omega) | (simp; done) | assumption)), rfl⟩ | exact ⟨rfl, rfl⟩))) ?_ | refine AP.pure rfl (pq_load1_ep rfl rfl rfl rfl rfl (by (first | (refine ⟨?_, ?_⟩; assumption; rfl) | exact ⟨mapAt (by (first | omega | (simp; omega) | (simp; done) | assumption)), rfl⟩ | exact ⟨rfl, rfl⟩))) ?_ | refine AP.pure rfl (pq_loadN_ep rfl rfl rfl rfl rfl (by (first | (refine ⟨?_, ?_⟩; assumption; rfl) | exact ⟨mapAt (by (first | omega | (simp; omega) | (simp; done) | assumption)), rfl⟩ | exact ⟨rfl, rfl⟩))) ?_ | fail "no step"
          all_goals (try simp only [nm, newS, plc, spl, bldA, bldS, zrow, chunks, ZC.val, Nat.reduceAdd, Nat.reduceSub, BEq.rfl])
          refine AP.nil ?_
          exact ⟨rfl, rfl⟩
        · intro h1 h2
          simp [depsOk, Region.binds] at h1 h2
          subst h1
          (repeat (obtain ⟨rfl, h2⟩ := h2))
          (try subst h2)
          clear hcl
          simp only [cond_true, cond_false, setT, List.set_cons_succ, List.set_cons_zero, List.getD_cons_succ, List.getD_cons_zero, List.set_cons_succ]
          (with_reducible apply AP.k_any); first | (refine AP.s1 rfl ?_ ?_; focus ((repeat' (with_reducible apply And.intro)) <;> (first | exact True.intro | exact rfl | omega | (simp; omega) | (simp; done) | assumption))) | fail "no step"
          all_goals (try simp only [nm, newS, plc, spl, bldA, bldS, zrow, chunks, ZC.val, Nat.reduceAdd, Nat.reduceSub, BEq.rfl])
          refine AP.nil ?_
          exact ⟨rfl, rfl⟩
        · intro h1 h2
          simp [depsOk, Region.binds] at h1 h2
          subst h1
          (repeat (obtain ⟨rfl, h2⟩ := h2))
          (try subst h2)
          (first | (obtain rfl : l7 = false := by grind only) | skip)
          clear hcl
          simp only [cond_true, cond_false, setT, List.set_cons_succ, List.set_cons_zero, List.getD_cons_succ, List.getD_cons_zero, List.set_cons_succ]
          (with_reducible apply AP.k_any); first | (refine AP.s1 rfl ?_ ?_; focus ((repeat' (with_reducible apply And.intro)) <;> (first | exact True.intro | exact rfl | omega | (simp; omega) | (simp; done) | assumption))) | refine AP.pure rfl (pq_load1_rp rfl rfl rfl rfl (by (first | (refine ⟨?_, ?_⟩; assumption; rfl) | exact ⟨mapAt (by (first | omega | (simp; omega) | (simp; done) | assumption)), rfl⟩ | exact ⟨rfl, rfl⟩))) ?_ | refine AP.pure rfl (pq_loadN_rp rfl rfl rfl rfl (by (first | (refine ⟨?_, ?_⟩; assumption; rfl) | exact ⟨mapAt (by (first | omega | (simp; omega) | (simp; done) | assumption)), rfl⟩ | exact ⟨rfl, rfl⟩))) ?_ | refine AP.pure rfl (pq_load1_ep rfl rfl rfl rfl rfl (by (first | (refine ⟨?_, ?_⟩; assumption; rfl) | exact ⟨mapAt (by (first | omega | (simp; omega) | (simp; done) | assumption)), rfl⟩ | exact ⟨rfl, rfl⟩))) ?_ | refine AP.pure rfl (pq_loadN_ep rfl rfl rfl rfl rfl (by (first | (refine ⟨?_, ?_⟩; assumption; rfl) | exact ⟨mapAt (by (first | omega | (simp; omega) | (simp; done) | assumption)), rfl⟩ | exact ⟨rfl, rfl⟩))) ?_ | fail "no step"
          all_goals (try simp only [nm, newS, plc, spl, bldA, bldS, zrow, chunks, ZC.val, Nat.reduceAdd, Nat.reduceSub, BEq.rfl])
          refine AP.nil ?_
          exact ⟨rfl, rfl⟩
        · intro h1 h2
          simp [depsOk, Region.binds] at h1 h2
          subst h1
          (repeat (obtain ⟨rfl, h2⟩ := h2))
          (try subst h2)
          clear hcl
          simp only [cond_true, cond_false, setT, List.set_cons_succ, List.set_cons_zero, List.getD_cons_succ, List.getD_cons_zero, List.set_cons_succ]
          (with_reducible apply AP.k_any); first | (refine AP.s1 rfl ?_ ?_; focus ((repeat' (with_reducible apply And.intro)) <;> (first | exact True.intro | exact rfl | omega | (simp; omega) | (simp; done) | assumption))) | fail "no step"
          all_goals (try simp only [nm, newS, plc, spl, bldA, bldS, zrow, chunks, ZC.val, Nat.reduceAdd, Nat.reduceSub, BEq.rfl])
          refine AP.nil ?_
          exact ⟨rfl, rfl⟩
        · intro h1 h2
          simp [depsOk, Region.binds] at h1 h2
          subst h1
          (repeat (obtain ⟨rfl, h2⟩ := h2))
          (try subst h2)
          (first | (obtain rfl : l7 = false := by grind only) | skip)
          clear hcl
          simp only [cond_true, cond_false, setT, List.set_cons_succ, List.set_cons_zero, List.getD_cons_succ, List.getD_cons_zero, List.set_cons_succ]
          (with_reducible apply AP.k_any); first | refine ap_store rfl rfl rfl rfl rfl rfl rfl rfl rfl ?_ | refine ap_storeE rfl rfl rfl rfl rfl rfl rfl rfl (by (first | (refine ⟨?_, ?_⟩; assumption; rfl) | exact ⟨mapAt (by (first | omega | (simp; omega) | (simp; done) | assumption)), rfl⟩ | exact ⟨rfl, rfl⟩)) (by exact rfl) ?_ | fail "no step"
          all_goals (try simp only [nm, newS, plc, spl, bldA, bldS, zrow, chunks, ZC.val, Nat.reduceAdd, Nat.reduceSub, BEq.rfl])
          refine AP.nil ?_
          exact ⟨rfl, rfl⟩
        · intro h1 h2
          simp [depsOk, Region.binds] at h1 h2
          subst h1
          (repeat (obtain ⟨rfl, h2⟩ := h2))
          (try subst h2)
          clear hcl
          simp only [cond_true, cond_false, setT, List.set_cons_succ, List.set_cons_zero, List.getD_cons_succ, List.getD_cons_zero, List.set_cons_succ]
          (with_reducible apply AP.k_any); first | (refine AP.s1 rfl ?_ ?_; focus ((repeat' (with_reducible apply And.intro)) <;> (first | exact True.intro | exact rfl | omega | (simp; omega) | (simp; done) | assumption))) | fail "no step"
          all_goals (try simp only [nm, newS, plc, spl, bldA, bldS, zrow, chunks, ZC.val, Nat.reduceAdd, Nat.reduceSub, BEq.rfl])
          refine AP.nil ?_
          exact ⟨rfl, rfl⟩
        · intro h1 h2
          simp [depsOk, Region.binds] at h1 h2
          subst h1
          (repeat (obtain ⟨rfl, h2⟩ := h2))
          (try subst h2)
          (first | (obtain rfl : l5 = true := by grind only) | skip)
          clear hcl
          simp only [cond_true, cond_false, setT, List.set_cons_succ, List.set_cons_zero, List.getD_cons_succ, List.getD_cons_zero, List.set_cons_succ]
          (with_reducible apply AP.k_any); first | refine ap_store rfl rfl rfl rfl rfl rfl rfl rfl rfl ?_ | refine ap_storeE rfl rfl rfl rfl rfl rfl rfl rfl (by (first | (refine ⟨?_, ?_⟩; assumption; rfl) | exact ⟨mapAt (by (first | omega | (simp; omega) | (simp; done) | assumption)), rfl⟩ | exact ⟨rfl, rfl⟩)) (by exact rfl) ?_ | fail "no step"
          all_goals (try simp only [nm, newS, plc, spl, bldA, bldS, zrow, chunks, ZC.val, Nat.reduceAdd, Nat.reduceSub, BEq.rfl])
          refine AP.nil ?_
          exact ⟨rfl, rfl⟩
    repeat' (first
      | ((first
      | ((with_reducible apply AP.k_any); first
               | (refine AP.s1 rfl ?_ ?_; focus ((repeat' (with_reducible apply And.intro)) <;> (first | exact True.intro | exact rfl | omega | (simp; omega) | (simp; done) | assumption)))
               | (refine AP.gyes rfl rfl rfl ?_; dsimp only) | refine AP.gno rfl rfl rfl rfl ?_ | refine AP.gund rfl rfl rfl ?_ | (refine AP.gsplit rfl rfl rfl (fun hg => ?_) (fun hg => ?_))
               | refine ap_box rfl rfl rfl rfl ?_
               | refine ap_alloc rfl rfl rfl rfl ?_
               | refine ap_store rfl rfl rfl rfl rfl rfl rfl rfl rfl ?_
        )
      | ((with_reducible apply AP.k_any); refine ap_callX rfl rfl (fn := 34) rfl (g1) (by (repeat' (first | exact PasC.nil | apply PasC.nil | apply PasC.cons | apply PasV.leaf rfl | apply PasV.nl | apply PasV.bp rfl | apply PasV.lend rfl rfl rfl | apply PasV.lend rfl rfl (ro_B _) | apply PasV.lend rfl rfl (ro_M _) | apply PasV.lend rfl rfl (ro_E _ _) | apply PasV.lend rfl rfl (ro_I _) | apply PasV.mv rfl | apply PasV.ag | apply PasV.fn | exact PasV.fs | apply PasV.any))) rfl rfl ?_)
        | ((with_reducible apply AP.k_any); refine ap_callX rfl rfl (fn := 57) rfl (dmayConfig_ac r.book.cfg hl8) (by (repeat' (first | exact PasC.nil | apply PasC.nil | apply PasC.cons | apply PasV.leaf rfl | apply PasV.nl | apply PasV.bp rfl | apply PasV.lend rfl rfl rfl | apply PasV.lend rfl rfl (ro_B _) | apply PasV.lend rfl rfl (ro_M _) | apply PasV.lend rfl rfl (ro_E _ _) | apply PasV.lend rfl rfl (ro_I _) | apply PasV.mv rfl | apply PasV.ag | apply PasV.fn | exact PasV.fs | apply PasV.any))) rfl rfl ?_)
      )
        <;> (try simp only [nm, newS, plc, spl, bldA, bldS, zrow, chunks, ZC.val, Nat.reduceAdd, Nat.reduceSub, BEq.rfl]))
      | ((with_reducible apply AP.k_nil); first
          | (refine AP.nil (hQ' _ ?_); clear hQ' Q')
          | refine AP.nil ?_)
      | ((with_reducible apply CP.k_reg); refine cp_regG fun Q' hQ' => ?_)
        | (with_reducible apply CP.k_reg1; refine cp_region ?_)
        | ((with_reducible apply CP.k_cond); first
            | refine cp_condT rfl ?_
            | refine cp_condF rfl ?_
            | refine cp_cond rfl (fun hc => ?_) (fun hc => ?_))
        | (with_reducible first | refine cp_block ?_ | refine cp_exit ?_ | refine cp_ret ?_ | refine cp_skip ?_ | refine cp_seq ?_ | refine inB_hit ?_ | refine inB_n ?_ | refine inB_r ?_ | refine thenQ_n ?_ | refine thenQ_r ?_ | refine thenQ_e ?_ | refine cpn_succ ?_)
        | (refine inB_miss rfl ?_))
    all_goals apply RetQ.mk (ks := []) (by first | exact .inr rfl | exact .inl rfl)
              case hl => (repeat' (first | exact ResL.nil | apply ResL.cons (Res1.row rfl rfl rfl rfl rfl) | apply ResL.cons (Res1.flat rfl rfl rfl rfl rfl) | apply ResL.cons (Res1.tmp (by (try simp only [List.getD_cons_succ, List.getD_cons_zero]); exact rfl))))
              case hc => (repeat' (first | exact ClsC.nil | exact ClsL.nil | apply ClsC.nl | apply ClsC.leaf rfl | apply ClsC.hd rfl | apply ClsC.fn | apply ClsR.tu | apply ClsL.cons | apply ClsV.ag | exact ClsV.bp | exact ClsV.one (ClsC.leaf rfl ClsC.nil) | exact ClsV.one (ClsC.nl ClsC.nil) | exact ClsV.one (ClsC.hd rfl ClsC.nil) | apply ClsR.one))
              case hr => (repeat' (first | exact RnV.leaf rfl | exact RnC.nil | apply RnC.cons | apply RnV.ag | apply RnV.tu | exact RnV.bp rfl))
              case ho => (repeat' (first | exact Out.nil | apply Out.cons rfl | exact ClsC.nil | apply ClsC.nl | apply ClsC.leaf rfl | apply ClsC.hd rfl | apply ClsC.fn | apply ClsC.fz rfl (ro_B _) | apply ClsC.fz rfl (ro_M _) | apply ClsC.fz rfl (ro_E _ _) | apply ClsC.fz rfl rfl))
              case hk => exact hks_of rfl
              case hq => (try dsimp only [resV, List.getD_cons_succ, List.getD_cons_zero]); (refine ⟨?_, rfl⟩; simp at *; simp [mayR, *]; try omega)
  all_goals apply RetQ.mk (ks := []) (by first | exact .inr rfl | exact .inl rfl)
            case hl => (repeat' (first | exact ResL.nil | apply ResL.cons (Res1.row rfl rfl rfl rfl rfl) | apply ResL.cons (Res1.flat rfl rfl rfl rfl rfl) | apply ResL.cons (Res1.tmp (by (try simp only [List.getD_cons_succ, List.getD_cons_zero]); exact rfl))))
            case hc => (repeat' (first | exact ClsC.nil | exact ClsL.nil | apply ClsC.nl | apply ClsC.leaf rfl | apply ClsC.hd rfl | apply ClsC.fn | apply ClsR.tu | apply ClsL.cons | apply ClsV.ag | exact ClsV.bp | exact ClsV.one (ClsC.leaf rfl ClsC.nil) | exact ClsV.one (ClsC.nl ClsC.nil) | exact ClsV.one (ClsC.hd rfl ClsC.nil) | apply ClsR.one))
            case hr => (repeat' (first | exact RnV.leaf rfl | exact RnC.nil | apply RnC.cons | apply RnV.ag | apply RnV.tu | exact RnV.bp rfl))
            case ho => (repeat' (first | exact Out.nil | apply Out.cons rfl | exact ClsC.nil | apply ClsC.nl | apply ClsC.leaf rfl | apply ClsC.hd rfl | apply ClsC.fn | apply ClsC.fz rfl (ro_B _) | apply ClsC.fz rfl (ro_M _) | apply ClsC.fz rfl (ro_E _ _) | apply ClsC.fz rfl rfl))
            case hk => exact hks_of rfl
            case hq => (try dsimp only [resV, List.getD_cons_succ, List.getD_cons_zero]); (refine ⟨?_, rfl⟩; simp at *; simp [mayR, *]; try omega)
end Go.Proofs.Ytkdbedbefojieaa
