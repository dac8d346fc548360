/-
  Bytes put together; numbers' bytes; a writer's steps.
-/
import Derived.Test.YtkdbedbefojieaaEncB
namespace Go.Proofs.Ytkdbedbefojieaa
set_option linter.unusedVariables false
set_option linter.unusedSimpArgs false
set_option maxHeartbeats 8000000
open Go.RowKit
set_option maxRecDepth 100000
abbrev tB : TypeId := 39
abbrev eS (l : List UInt8) : List AV := [bs none l]
abbrev bss (o : Option TypeId) (ls : List (List UInt8)) : AV := .sl o 1 (ls.map eS)
theorem ro_S (l : List (List UInt8)) : roE (l.map eS) = l.map eS := by
  rw [roE_map]
  refine List.map_congr_left fun x _ => ?_
  simp only [eS, roC, AV.ro, ro_B]
theorem wcat_ac (ls : List (List UInt8)) (hl : ls.length ≤ 100000000) (hf : ls.flatten.length ≤ 100000000) :
    AC Try.prog 89 [bss none ls] [] (fun v bs' => v = bs (some tU) ls.flatten ∧ bs' = []) := by
  refine AC.enter Try.func89 rfl rfl Try.ntmps89 (fl1_all rfl) (by (repeat' (first | exact Bk.nil | apply Bk.cons rfl rfl rfl))) ?_
  intro X
  simp only [nm, newS, plc, spl, bldA, bldS, zrow, chunks, ZC.val, Nat.reduceAdd, Nat.reduceSub, BEq.rfl]
  repeat' (first
    | ((first
    | ((with_reducible apply AP.k_any); first
             | (refine AP.s1 rfl ?_ ?_; focus ((repeat' (with_reducible apply And.intro)) <;> (first | exact True.intro | exact rfl | omega | (simp; omega) | (simp; done) | assumption)))
             | (refine AP.s2 rfl ?_ ?_; focus ((repeat' (with_reducible apply And.intro)) <;> (first | exact True.intro | exact rfl | omega | (simp; omega) | (simp; done) | assumption)))
             | refine AP.pure rfl (pq_load1_rp rfl rfl rfl rfl (by (first | (refine ⟨?_, ?_⟩; assumption; rfl) | exact ⟨mapAt (by (first | omega | (simp; omega) | (simp; done) | assumption)), rfl⟩ | exact ⟨rfl, rfl⟩))) ?_ | refine AP.pure rfl (pq_loadN_rp rfl rfl rfl rfl (by (first | (refine ⟨?_, ?_⟩; assumption; rfl) | exact ⟨mapAt (by (first | omega | (simp; omega) | (simp; done) | assumption)), rfl⟩ | exact ⟨rfl, rfl⟩))) ?_ | refine AP.pure rfl (pq_load1_ep rfl rfl rfl rfl rfl (by (first | (refine ⟨?_, ?_⟩; assumption; rfl) | exact ⟨mapAt (by (first | omega | (simp; omega) | (simp; done) | assumption)), rfl⟩ | exact ⟨rfl, rfl⟩))) ?_ | refine AP.pure rfl (pq_loadN_ep rfl rfl rfl rfl rfl (by (first | (refine ⟨?_, ?_⟩; assumption; rfl) | exact ⟨mapAt (by (first | omega | (simp; omega) | (simp; done) | assumption)), rfl⟩ | exact ⟨rfl, rfl⟩))) ?_
             | refine ap_appendO rfl rfl rfl rfl rfl rfl rfl rfl rfl rfl rfl (by (first | omega | (simp; omega) | (simp; done) | assumption)) (.inl ⟨rfl, rfl⟩) ?_ | refine ap_appendO rfl rfl rfl rfl rfl rfl rfl rfl rfl rfl rfl (by (first | omega | (simp; omega) | (simp; done) | assumption)) (.inr ⟨_, _, rfl, rfl, rfl, rfl⟩) ?_
             | refine ap_appendN rfl rfl rfl rfl rfl rfl rfl rfl rfl rfl (.inl ⟨rfl, rfl⟩) (by (first | omega | (simp; omega) | (simp; done) | assumption)) ?_ | refine ap_appendN rfl rfl rfl rfl rfl rfl rfl rfl rfl rfl (.inr ⟨_, _, rfl, rfl, rfl⟩) (by (first | omega | (simp; omega) | (simp; done) | assumption)) ?_
             | refine ap_appendF rfl rfl rfl rfl rfl rfl rfl rfl rfl rfl (.inl ⟨rfl, rfl⟩) (by (first | omega | (simp; omega) | (simp; done) | assumption)) (by first | exact .inl rfl | exact .inr (by (first | omega | (simp; omega) | (simp; done) | assumption))) ?_ | refine ap_appendF rfl rfl rfl rfl rfl rfl rfl rfl rfl rfl (.inr ⟨_, _, rfl, rfl, rfl⟩) (by (first | omega | (simp; omega) | (simp; done) | assumption)) (by first | exact .inl rfl | exact .inr (by (first | omega | (simp; omega) | (simp; done) | assumption))) ?_
             | refine ap_appendH rfl rfl rfl rfl rfl rfl rfl rfl rfl rfl rfl (by (first | omega | (simp; omega) | (simp; done) | assumption)) (by (first | omega | (simp; omega) | (simp; done) | assumption)) (.inr ⟨_, _, rfl, rfl, rfl, rfl⟩) ?_
      )
    
    )
      <;> (try simp only [nm, newS, plc, spl, bldA, bldS, zrow, chunks, ZC.val, Nat.reduceAdd, Nat.reduceSub, BEq.rfl]))
    | ((with_reducible apply AP.k_nil); first
        | (refine AP.nil (hQ' _ ?_); clear hQ' Q')
        | refine AP.nil ?_)
    | ((with_reducible apply CP.k_reg); refine cp_regG fun Q' hQ' => ?_)
      | (with_reducible apply CP.k_reg1; refine cp_region ?_)
      | ((with_reducible apply CP.k_cond); first
          | refine cp_condT rfl ?_
          | refine cp_condF rfl ?_
          | refine cp_cond rfl (fun hc => ?_) (fun hc => ?_))
      | (with_reducible first | refine cp_block ?_ | refine cp_exit ?_ | refine cp_ret ?_ | refine cp_skip ?_ | refine cp_seq ?_ | refine inB_hit ?_ | refine inB_n ?_ | refine inB_r ?_ | refine thenQ_n ?_ | refine thenQ_r ?_ | refine thenQ_e ?_ | refine cpn_succ ?_)
      | (refine inB_miss rfl ?_))
  refine CP.gh (gh_nil (t := 3) (e := tU) (k := 1) rfl) ?_
  simp only [nm, newS, plc, spl, bldA, bldS, zrow, chunks, ZC.val, Nat.reduceAdd, Nat.reduceSub, BEq.rfl]
  refine cp_loopS [3, 5, 8, 9, 10, 11, 12, 13, 14, 15] (fun a : Nat × Nat => ls.length - a.1) (fun a => a.1 ≤ ls.length) (fun a => [(8, I a.1), (3, .hd 0 a.2)]) (fun a => [(0, ⟨a.2, .r tU 1 ((ls.take a.1).flatten.map eB)⟩)]) (0, 1) (Nat.zero_le _) (by (refine gh_wk ?_; (try simp only [setT, deT, setB, List.set_cons_succ, List.set_cons_zero]); (refine ⟨?_, ?_⟩ <;> (try dsimp only) <;> (repeat' (first | exact Wk.nil | exact WkB.nil | apply Wk.same | apply Wk.de | apply Wk.nl | apply WkB.same | apply WkB.drop))))) ?_
  rintro ⟨k, u⟩ hk
  simp only [setT, deT, setB, List.set_cons_succ, List.set_cons_zero]
  dsimp only at hk
  by_cases hlt : k < ls.length
  · have hw : IntKind.i64.wrap ((k : Int) + 1) = ((k + 1 : Nat) : Int) := wrap_i64 (by omega) (by omega)
    have hlen : (ls.take k).flatten.length + ls[k].length ≤ 100000000 := by
      have h1 : (ls.take k).flatten ++ ls[k] = (ls.take (k + 1)).flatten := by rw [List.take_succ_eq_append_getElem hlt, List.flatten_append, List.flatten_cons, List.flatten_nil, List.append_nil]
      have h2 : (ls.take (k + 1)).flatten ++ (ls.drop (k + 1)).flatten = ls.flatten := by rw [← List.flatten_append, List.take_append_drop]
      have h3 := congrArg List.length h1
      have h4 := congrArg List.length h2
      simp only [List.length_append] at h3 h4
      omega
    have hlen2 : ((ls.take k).flatten.map eB).length + (ls[k].map eB).length ≤ 1000000000 := by rw [List.length_map, List.length_map]; omega
    repeat' (first
      | ((first
      | ((with_reducible apply AP.k_any); first
               | (refine AP.s1 rfl ?_ ?_; focus ((repeat' (with_reducible apply And.intro)) <;> (first | exact True.intro | exact rfl | omega | (simp; omega) | (simp; done) | assumption)))
               | (refine AP.s2 rfl ?_ ?_; focus ((repeat' (with_reducible apply And.intro)) <;> (first | exact True.intro | exact rfl | omega | (simp; omega) | (simp; done) | assumption)))
               | refine AP.pure rfl (pq_load1_rp rfl rfl rfl rfl (by (first | (refine ⟨?_, ?_⟩; assumption; rfl) | exact ⟨mapAt (by (first | omega | (simp; omega) | (simp; done) | assumption)), rfl⟩ | exact ⟨rfl, rfl⟩))) ?_ | refine AP.pure rfl (pq_loadN_rp rfl rfl rfl rfl (by (first | (refine ⟨?_, ?_⟩; assumption; rfl) | exact ⟨mapAt (by (first | omega | (simp; omega) | (simp; done) | assumption)), rfl⟩ | exact ⟨rfl, rfl⟩))) ?_ | refine AP.pure rfl (pq_load1_ep rfl rfl rfl rfl rfl (by (first | (refine ⟨?_, ?_⟩; assumption; rfl) | exact ⟨mapAt (by (first | omega | (simp; omega) | (simp; done) | assumption)), rfl⟩ | exact ⟨rfl, rfl⟩))) ?_ | refine AP.pure rfl (pq_loadN_ep rfl rfl rfl rfl rfl (by (first | (refine ⟨?_, ?_⟩; assumption; rfl) | exact ⟨mapAt (by (first | omega | (simp; omega) | (simp; done) | assumption)), rfl⟩ | exact ⟨rfl, rfl⟩))) ?_
               | refine ap_appendO rfl rfl rfl rfl rfl rfl rfl rfl rfl rfl rfl (by (first | omega | (simp; omega) | (simp; done) | assumption)) (.inl ⟨rfl, rfl⟩) ?_ | refine ap_appendO rfl rfl rfl rfl rfl rfl rfl rfl rfl rfl rfl (by (first | omega | (simp; omega) | (simp; done) | assumption)) (.inr ⟨_, _, rfl, rfl, rfl, rfl⟩) ?_
               | refine ap_appendN rfl rfl rfl rfl rfl rfl rfl rfl rfl rfl (.inl ⟨rfl, rfl⟩) (by (first | omega | (simp; omega) | (simp; done) | assumption)) ?_ | refine ap_appendN rfl rfl rfl rfl rfl rfl rfl rfl rfl rfl (.inr ⟨_, _, rfl, rfl, rfl⟩) (by (first | omega | (simp; omega) | (simp; done) | assumption)) ?_
               | refine ap_appendF rfl rfl rfl rfl rfl rfl rfl rfl rfl rfl (.inl ⟨rfl, rfl⟩) (by (first | omega | (simp; omega) | (simp; done) | assumption)) (by first | exact .inl rfl | exact .inr (by (first | omega | (simp; omega) | (simp; done) | assumption))) ?_ | refine ap_appendF rfl rfl rfl rfl rfl rfl rfl rfl rfl rfl (.inr ⟨_, _, rfl, rfl, rfl⟩) (by (first | omega | (simp; omega) | (simp; done) | assumption)) (by first | exact .inl rfl | exact .inr (by (first | omega | (simp; omega) | (simp; done) | assumption))) ?_
               | refine ap_appendH rfl rfl rfl rfl rfl rfl rfl rfl rfl rfl rfl (by (first | omega | (simp; omega) | (simp; done) | assumption)) (by (first | omega | (simp; omega) | (simp; done) | assumption)) (.inr ⟨_, _, rfl, rfl, rfl, rfl⟩) ?_
        )
      
      )
        <;> (try simp only [nm, newS, plc, spl, bldA, bldS, zrow, chunks, ZC.val, Nat.reduceAdd, Nat.reduceSub, BEq.rfl]))
      | ((with_reducible apply AP.k_nil); first
          | (refine AP.nil (hQ' _ ?_); clear hQ' Q')
          | refine AP.nil ?_)
      | ((with_reducible apply CP.k_reg); refine cp_regG fun Q' hQ' => ?_)
        | (with_reducible apply CP.k_reg1; refine cp_region ?_)
        | ((with_reducible apply CP.k_cond); first
            | refine cp_condT rfl ?_
            | refine cp_condF rfl ?_
            | refine cp_cond rfl (fun hc => ?_) (fun hc => ?_))
        | (with_reducible first | refine cp_block ?_ | refine cp_exit ?_ | refine cp_ret ?_ | refine cp_skip ?_ | refine cp_seq ?_ | refine inB_hit ?_ | refine inB_n ?_ | refine inB_r ?_ | refine thenQ_n ?_ | refine thenQ_r ?_ | refine thenQ_e ?_ | refine cpn_succ ?_)
        | (refine inB_miss rfl ?_))
    · simp only [hw]
      refine ⟨(k + 1, u + 1), by (dsimp only; omega), by (dsimp only; omega), ?_⟩
      have h1 : (ls.take (k + 1)).flatten.map eB = (ls.take k).flatten.map eB ++ ls[k].map eB := by rw [List.take_succ_eq_append_getElem hlt, List.flatten_append, List.flatten_cons, List.flatten_nil, List.append_nil, List.map_append]
      simp only [h1]
      (refine gh_wk ?_; (try simp only [setT, deT, setB, List.set_cons_succ, List.set_cons_zero]); (refine ⟨?_, ?_⟩ <;> (try dsimp only) <;> (repeat' (first | exact Wk.nil | exact WkB.nil | apply Wk.same | apply Wk.de | apply Wk.nl | apply WkB.same | apply WkB.drop))))
    · exfalso; simp at *; omega
  · obtain rfl : k = ls.length := by omega
    rw [List.take_length]
    repeat' (first
      | ((first
      | ((with_reducible apply AP.k_any); first
               | (refine AP.s1 rfl ?_ ?_; focus ((repeat' (with_reducible apply And.intro)) <;> (first | exact True.intro | exact rfl | omega | (simp; omega) | (simp; done) | assumption)))
               | (refine AP.s2 rfl ?_ ?_; focus ((repeat' (with_reducible apply And.intro)) <;> (first | exact True.intro | exact rfl | omega | (simp; omega) | (simp; done) | assumption)))
               | refine AP.pure rfl (pq_load1_rp rfl rfl rfl rfl (by (first | (refine ⟨?_, ?_⟩; assumption; rfl) | exact ⟨mapAt (by (first | omega | (simp; omega) | (simp; done) | assumption)), rfl⟩ | exact ⟨rfl, rfl⟩))) ?_ | refine AP.pure rfl (pq_loadN_rp rfl rfl rfl rfl (by (first | (refine ⟨?_, ?_⟩; assumption; rfl) | exact ⟨mapAt (by (first | omega | (simp; omega) | (simp; done) | assumption)), rfl⟩ | exact ⟨rfl, rfl⟩))) ?_ | refine AP.pure rfl (pq_load1_ep rfl rfl rfl rfl rfl (by (first | (refine ⟨?_, ?_⟩; assumption; rfl) | exact ⟨mapAt (by (first | omega | (simp; omega) | (simp; done) | assumption)), rfl⟩ | exact ⟨rfl, rfl⟩))) ?_ | refine AP.pure rfl (pq_loadN_ep rfl rfl rfl rfl rfl (by (first | (refine ⟨?_, ?_⟩; assumption; rfl) | exact ⟨mapAt (by (first | omega | (simp; omega) | (simp; done) | assumption)), rfl⟩ | exact ⟨rfl, rfl⟩))) ?_
               | refine ap_appendO rfl rfl rfl rfl rfl rfl rfl rfl rfl rfl rfl (by (first | omega | (simp; omega) | (simp; done) | assumption)) (.inl ⟨rfl, rfl⟩) ?_ | refine ap_appendO rfl rfl rfl rfl rfl rfl rfl rfl rfl rfl rfl (by (first | omega | (simp; omega) | (simp; done) | assumption)) (.inr ⟨_, _, rfl, rfl, rfl, rfl⟩) ?_
               | refine ap_appendN rfl rfl rfl rfl rfl rfl rfl rfl rfl rfl (.inl ⟨rfl, rfl⟩) (by (first | omega | (simp; omega) | (simp; done) | assumption)) ?_ | refine ap_appendN rfl rfl rfl rfl rfl rfl rfl rfl rfl rfl (.inr ⟨_, _, rfl, rfl, rfl⟩) (by (first | omega | (simp; omega) | (simp; done) | assumption)) ?_
               | refine ap_appendF rfl rfl rfl rfl rfl rfl rfl rfl rfl rfl (.inl ⟨rfl, rfl⟩) (by (first | omega | (simp; omega) | (simp; done) | assumption)) (by first | exact .inl rfl | exact .inr (by (first | omega | (simp; omega) | (simp; done) | assumption))) ?_ | refine ap_appendF rfl rfl rfl rfl rfl rfl rfl rfl rfl rfl (.inr ⟨_, _, rfl, rfl, rfl⟩) (by (first | omega | (simp; omega) | (simp; done) | assumption)) (by first | exact .inl rfl | exact .inr (by (first | omega | (simp; omega) | (simp; done) | assumption))) ?_
               | refine ap_appendH rfl rfl rfl rfl rfl rfl rfl rfl rfl rfl rfl (by (first | omega | (simp; omega) | (simp; done) | assumption)) (by (first | omega | (simp; omega) | (simp; done) | assumption)) (.inr ⟨_, _, rfl, rfl, rfl, rfl⟩) ?_
        )
      
      )
        <;> (try simp only [nm, newS, plc, spl, bldA, bldS, zrow, chunks, ZC.val, Nat.reduceAdd, Nat.reduceSub, BEq.rfl]))
      | ((with_reducible apply AP.k_nil); first
          | (refine AP.nil (hQ' _ ?_); clear hQ' Q')
          | refine AP.nil ?_)
      | ((with_reducible apply CP.k_reg); refine cp_regG fun Q' hQ' => ?_)
        | (with_reducible apply CP.k_reg1; refine cp_region ?_)
        | ((with_reducible apply CP.k_cond); first
            | refine cp_condT rfl ?_
            | refine cp_condF rfl ?_
            | refine cp_cond rfl (fun hc => ?_) (fun hc => ?_))
        | (with_reducible first | refine cp_block ?_ | refine cp_exit ?_ | refine cp_ret ?_ | refine cp_skip ?_ | refine cp_seq ?_ | refine inB_hit ?_ | refine inB_n ?_ | refine inB_r ?_ | refine thenQ_n ?_ | refine thenQ_r ?_ | refine thenQ_e ?_ | refine cpn_succ ?_)
        | (refine inB_miss rfl ?_))
    all_goals first
      | (exfalso; simp at *; done)
      | (exfalso; simp at *; omega)
      | apply RetQ.mk (ks := []) (by first | exact .inr rfl | exact .inl rfl)
        case hl => (repeat' (first | exact ResL.nil | apply ResL.cons (Res1.row rfl rfl rfl rfl rfl) | apply ResL.cons (Res1.flat rfl rfl rfl rfl rfl) | apply ResL.cons (Res1.tmp (by (try simp only [List.getD_cons_succ, List.getD_cons_zero]); exact rfl))))
        case hc => (repeat' (first | exact ClsC.nil | exact ClsL.nil | apply ClsC.nl | apply ClsC.leaf rfl | apply ClsC.hd rfl | apply ClsC.fn | apply ClsR.tu | apply ClsL.cons | apply ClsV.ag | exact ClsV.bp | exact ClsV.one (ClsC.leaf rfl ClsC.nil) | exact ClsV.one (ClsC.nl ClsC.nil) | exact ClsV.one (ClsC.hd rfl ClsC.nil) | apply ClsR.one))
        case hr => (repeat' (first | exact RnV.leaf rfl | exact RnC.nil | apply RnC.cons | apply RnV.ag | apply RnV.tu | exact RnV.bp rfl))
        case ho => (repeat' (first | exact Out.nil | apply Out.cons rfl | exact ClsC.nil | apply ClsC.nl | apply ClsC.leaf rfl | apply ClsC.hd rfl | apply ClsC.fn | apply ClsC.fz rfl (ro_B _) | apply ClsC.fz rfl (ro_M _) | apply ClsC.fz rfl (ro_E _ _) | apply ClsC.fz rfl rfl))
        case hk => exact hks_of rfl
        case hq => (try dsimp only [resV, List.getD_cons_succ, List.getD_cons_zero]); exact ⟨rfl, rfl⟩
end Go.Proofs.Ytkdbedbefojieaa
