/-
  A writer's bytes are the document's, as long as there are few of them.
-/
import Derived.Test.YtkdbedbefojieaaV5
import Derived.Test.YtkdbedbefojieaaW10
namespace Go.Proofs.Ytkdbedbefojieaa
set_option linter.unusedVariables false
set_option linter.unusedSimpArgs false
set_option maxHeartbeats 8000000
open Go.RowKit
set_option maxRecDepth 100000
theorem addS_ok {a b : List UInt8} (h : a.length + b.length ≤ 65536) : addS (false, a) b = (false, a ++ b) := by
  simp only [addS]
  rw [if_neg (by simp; omega)]
theorem putM_ok {a : List UInt8} {m : Member} (h : a.length + 17 ≤ 65536) : putM (false, a) m = (false, a ++ memF m) := by
  unfold putM
  rw [addS_ok (by rw [intS_length]; omega), addS_ok (by rw [List.length_append, intS_length, intS_length]; omega), addS_ok (by rw [List.length_append, List.length_append, intS_length, intS_length, flagS_length]; omega)]
  simp [memF, numS]
theorem foldM_ok : ∀ {l : List Member} {a : List UInt8}, a.length + 17 * l.length ≤ 65536 → l.foldl putM (false, a) = (false, a ++ (l.map memF).flatten)
  | [], a, _ => by simp
  | m :: l, a, h => by
    rw [List.length_cons] at h
    rw [List.foldl_cons, putM_ok (by omega), foldM_ok (by rw [List.length_append, memF_length]; omega)]
    simp
theorem putC_ok {a : List UInt8} {c : Config} (h : a.length + 16 + 17 * c.members.length ≤ 65536) : putC (false, a) c = (false, a ++ configF c) := by
  unfold putC
  rw [addS_ok (by rw [intS_length]; omega), addS_ok (by rw [List.length_append, intS_length, intS_length]; omega), foldM_ok (by rw [List.length_append, List.length_append, intS_length, intS_length]; omega)]
  simp [configF, numS]
theorem putR_ok {a : List UInt8} {e : Entry} (h : a.length + 28 + e.body.length ≤ 65536) : putR (false, a) e = (false, a ++ restF e) := by
  unfold putR
  rw [addS_ok (by rw [intS_length]; omega), addS_ok (by simp only [List.length_append, intS_length]; omega), addS_ok (by simp only [List.length_append, intS_length]; omega), addS_ok (by simp only [List.length_append, intS_length, putS_length]; omega), addS_ok (by simp only [List.length_append, intS_length, putS_length]; omega)]
  simp [restF, numS]
theorem putE_ok {a : List UInt8} {e : Entry} (h : a.length + 36 + e.body.length ≤ 65536) : putE (false, a) e = (false, a ++ entryF e) := by
  have : putE (false, a) e = putR (addS (false, a) (intS e.pos)) e := rfl
  rw [this, addS_ok (by rw [intS_length]; omega), putR_ok (by rw [List.length_append, intS_length]; omega)]
  simp [entryF]
theorem formR_eq {r : Record} (h1 : r.book.cfg.members.length ≤ 1000) (h2 : r.entry.body.length ≤ 10000) : formR r = (false, recForm r) := by
  have e0 : addS (false, []) [r.kind] = (false, [r.kind]) := addS_ok (by simp)
  have hc := configF_length r.book.cfg
  unfold formR recForm
  simp only [u8_one, u8_two]
  split
  · unfold putB
    rw [e0, putC_ok (by simp; omega), addS_ok (by simp only [List.length_append, List.length_cons, List.length_nil, intS_length]; omega), addS_ok (by simp only [List.length_append, List.length_cons, List.length_nil, intS_length, flagS_length]; omega), addS_ok (by simp only [List.length_append, List.length_cons, List.length_nil, intS_length, flagS_length]; omega), addS_ok (by simp only [List.length_append, List.length_cons, List.length_nil, intS_length, flagS_length]; omega)]
    simp
  · split
    · rw [e0, putE_ok (by simp; omega)]
    · rw [e0]; simp
def greatS (r : Record) : Bool := decide (50 < (r.book.cfg.members.length : Int)) || decide (3000 < (r.entry.body.length : Int))
theorem great_ac (r : Record) : AC Try.prog 18 [.ag (eR r)] [] (fun v bs => v = B (greatS r) ∧ bs = []) := by
  refine AC.enter Try.func18 rfl rfl Try.ntmps18 (fl1_all rfl) (by (repeat' (first | exact Bk.nil | apply Bk.cons rfl rfl rfl))) ?_
  intro X
  simp only [nm, newS, plc, spl, bldA, bldS, zrow, chunks, ZC.val, Nat.reduceAdd, Nat.reduceSub, BEq.rfl]
  repeat' (first
    | ((first
    | ((with_reducible apply AP.k_any); first
             | (refine AP.s1 rfl ?_ ?_; focus ((repeat' (with_reducible apply And.intro)) <;> (first | exact True.intro | exact rfl | omega | (simp; omega) | (simp; done) | assumption)))
             | (refine AP.s2 rfl ?_ ?_; focus ((repeat' (with_reducible apply And.intro)) <;> (first | exact True.intro | exact rfl | omega | (simp; omega) | (simp; done) | assumption)))
             | (refine AP.gyes rfl rfl rfl ?_; dsimp only) | refine AP.gno rfl rfl rfl rfl ?_ | refine AP.gund rfl rfl rfl ?_ | (refine AP.gsplit rfl rfl rfl (fun hg => ?_) (fun hg => ?_))
             | refine ap_box rfl rfl rfl rfl ?_
      )
    
    )
      <;> (try simp only [nm, newS, plc, spl, bldA, bldS, zrow, chunks, ZC.val, Nat.reduceAdd, Nat.reduceSub, BEq.rfl]))
    | ((with_reducible apply AP.k_nil); first
        | (refine AP.nil (hQ' _ ?_); clear hQ' Q')
        | refine AP.nil ?_)
    | ((with_reducible apply CP.k_reg); refine cp_regG fun Q' hQ' => ?_)
      | (with_reducible apply CP.k_reg1; refine cp_region ?_)
      | ((with_reducible apply CP.k_cond); first
          | refine cp_condT rfl ?_
          | refine cp_condF rfl ?_
          | refine cp_cond rfl (fun hc => ?_) (fun hc => ?_))
      | (with_reducible first | refine cp_block ?_ | refine cp_exit ?_ | refine cp_ret ?_ | refine cp_skip ?_ | refine cp_seq ?_ | refine inB_hit ?_ | refine inB_n ?_ | refine inB_r ?_ | refine thenQ_n ?_ | refine thenQ_r ?_ | refine thenQ_e ?_ | refine cpn_succ ?_)
      | (refine inB_miss rfl ?_))
  all_goals apply RetQ.mk (ks := []) (by first | exact .inr rfl | exact .inl rfl)
            case hl => (repeat' (first | exact ResL.nil | apply ResL.cons (Res1.row rfl rfl rfl rfl rfl) | apply ResL.cons (Res1.flat rfl rfl rfl rfl rfl) | apply ResL.cons (Res1.tmp (by (try simp only [List.getD_cons_succ, List.getD_cons_zero]); exact rfl))))
            case hc => (repeat' (first | exact ClsC.nil | exact ClsL.nil | apply ClsC.nl | apply ClsC.leaf rfl | apply ClsC.hd rfl | apply ClsC.fn | apply ClsR.tu | apply ClsL.cons | apply ClsV.ag | exact ClsV.bp | exact ClsV.one (ClsC.leaf rfl ClsC.nil) | exact ClsV.one (ClsC.nl ClsC.nil) | exact ClsV.one (ClsC.hd rfl ClsC.nil) | apply ClsR.one))
            case hr => (repeat' (first | exact RnV.leaf rfl | exact RnC.nil | apply RnC.cons | apply RnV.ag | apply RnV.tu | exact RnV.bp rfl))
            case ho => (repeat' (first | exact Out.nil | apply Out.cons rfl | exact ClsC.nil | apply ClsC.nl | apply ClsC.leaf rfl | apply ClsC.hd rfl | apply ClsC.fn | apply ClsC.fz rfl (ro_B _) | apply ClsC.fz rfl (ro_M _) | apply ClsC.fz rfl (ro_E _ _) | apply ClsC.fz rfl rfl))
            case hk => exact hks_of rfl
            case hq => (try dsimp only [resV, List.getD_cons_succ, List.getD_cons_zero]); (refine ⟨?_, rfl⟩; simp at *; simp [greatS, *]; try (intro h; omega))
def printS (r : Record) : List UInt8 × Int := if mayR r = true then (recForm r, 0) else ([], 2)
theorem print_ac (r : Record) (hl : r.book.cfg.members.length ≤ 1000) (hb : r.entry.body.length ≤ 10000) : AC Try.prog 27 [.ag (eR r)] [] (fun v bs' => v = .tu [bs none (printS r).1, I (printS r).2] ∧ bs' = []) := by
  refine (printR_ac r (by omega) (by omega)).mono fun v bs' ⟨h1, h2⟩ => ⟨?_, h2⟩
  rw [h1, formR_eq hl hb, printS]
  split <;> rfl
end Go.Proofs.Ytkdbedbefojieaa
