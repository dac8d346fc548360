/-
  Texts joined: W8, W9, W15, V4, C1, Cb, C2, V5, W10, V6, V7, V8, V9, V10, V11, PR, C9, C10.
-/
import Derived.Test.YtkdbedbefojieaaZ1
import Derived.Test.YtkdbedbefojieaaZ2
import Derived.Test.YtkdbedbefojieaaZ3
namespace Go.Proofs.Ytkdbedbefojieaa
set_option linter.unusedVariables false
set_option linter.unusedSimpArgs false
set_option maxHeartbeats 8000000
open Go.RowKit
set_option maxRecDepth 100000
theorem putM_len {st : Bool × List UInt8} {m : Member} (h : st.2.length ≤ 65536) : (putM st m).2.length ≤ 65536 := addS_len (addS_len (addS_len h))
theorem putConfig_ac (st : Bool × List UInt8) (c : Config) (hst : st.2.length ≤ 65536) (hl : c.members.length ≤ 100000000) :
    AC Try.prog 48 [.bp 0 0 0, .ag (eC none c)] [wB st] (fun v bs => v = .bp 0 0 0 ∧ bs = [wB (putC st c)]) := by
  have h1 := addS_len (st := st) (b := intS c.epoch) hst
  have h2 := addS_len (b := intS c.members.length) h1
  refine AC.N Try.func48 Try.ntmps48 ?_
  intro X
  simp only [nx, Nat.reduceAdd, Nat.reduceSub, BEq.rfl]
  repeat' (first
    | ((first
    | ((with_reducible apply AP.k_any); first
             | refine AP.S ?_
             | refine AP.E ?_
             | refine AP.T ?_
      )
    
    )
      <;> (try simp only [nx, Nat.reduceAdd, Nat.reduceSub, BEq.rfl]))
    | ((with_reducible apply AP.k_nil); first
        | (refine AP.nil (hQ' _ ?_); clear hQ' Q')
        | refine AP.nil ?_)
    | ((with_reducible apply CP.k_reg); refine cp_regG fun Q' hQ' => ?_)
      | (with_reducible apply CP.k_reg1; refine cp_region ?_)
      | ((with_reducible apply CP.k_cond); first | refine cp_condT rfl ?_ | refine cp_condF rfl ?_ | refine cp_cond rfl (fun hc => ?_) (fun hc => ?_))
      | refine CP.go ?_
      | (simp only [List.append_eq, List.cons_append, List.nil_append]))
  refine cp_drawI (fun zs zb => ⟨setT zs.t [(7, cond (zb.getD 0 false) (.bp 0 0 0) (.tu [])), (8, cond (zb.getD 1 false) (.bp 2 1 0) (.tu [])), (9, cond (zb.getD 2 false) (I c.epoch) (.tu [])), (10, cond (zb.getD 3 false) (.bp 0 0 0) (.tu [])), (11, cond (zb.getD 4 false) (.bp 2 1 1) (.tu [])), (12, cond (zb.getD 5 false) (ms none c.members) (.tu [])), (13, cond (zb.getD 6 false) (I c.members.length) (.tu [])), (14, cond (zb.getD 7 false) (.bp 0 0 0) (.tu []))], ((zs.b.set 0 (cond (zb.getD 7 false) (⟨0, .c tW [B true, B (addS (addS st (intS c.epoch)) (intS c.members.length)).1, .hd 1 3]⟩) (cond (zb.getD 3 false) (⟨0, .c tW [B true, B (addS st (intS c.epoch)).1, .hd 1 2]⟩) (zs.b.getD 0 ⟨0, .x⟩)))).set 1 (cond (zb.getD 7 false) (⟨3, .r tU 1 ((addS (addS st (intS c.epoch)) (intS c.members.length)).2.map eB)⟩) (cond (zb.getD 3 false) (⟨2, .r tU 1 ((addS st (intS c.epoch)).2.map eB)⟩) (zs.b.getD 1 ⟨0, .x⟩))))⟩) (by kernel_rfl) (by kernel_rfl) (by kernel_rfl) ?_ ?_
  rotate_left
  simp only [cond_true, cond_false, setT, List.set_cons_succ, List.set_cons_zero, List.getD_cons_succ, List.getD_cons_zero, List.set_cons_succ, List.length_cons, List.length_nil, List.replicate_succ, List.replicate_zero, Nat.reduceAdd]
  rotate_left
  · intro b hb' hcl
    obtain ⟨l0, b0, rfl, hb0⟩ := len_cons hb'
    obtain ⟨l1, b1, rfl, hb1⟩ := len_cons hb0
    obtain ⟨l2, b2, rfl, hb2⟩ := len_cons hb1
    obtain ⟨l3, b3, rfl, hb3⟩ := len_cons hb2
    obtain ⟨l4, b4, rfl, hb4⟩ := len_cons hb3
    obtain ⟨l5, b5, rfl, hb5⟩ := len_cons hb4
    obtain ⟨l6, b6, rfl, hb6⟩ := len_cons hb5
    obtain ⟨l7, b7, rfl, hb7⟩ := len_cons hb6
    obtain rfl := List.length_eq_zero_iff.1 hb7
    clear hb' hb0 hb1 hb2 hb3 hb4 hb5 hb6 hb7
    · simp only [closedB, depsOk, Region.binds, List.toList_toArray, List.all_cons, List.all_nil, List.getD_cons_succ, List.getD_cons_zero, Bool.not_true, Bool.not_false, Bool.true_or, Bool.false_or, Bool.and_true, Bool.true_and, Bool.or_true, Bool.and_false, Bool.or_false, Bool.false_and, Bool.and_eq_true, Bool.or_eq_true, Bool.not_eq_true'] at hcl
      simp only [StepsP]
      refine ⟨?_, ?_, ?_, ?_, ?_, ?_, ?_, ?_, trivial⟩
      · intro h1 h2
        simp [depsOk, Region.binds] at h1 h2
        subst h1
        (repeat (obtain ⟨rfl, h2⟩ := h2))
        (try subst h2)
        clear hcl
        simp only [cond_true, cond_false, setT, List.set_cons_succ, List.set_cons_zero, List.getD_cons_succ, List.getD_cons_zero, List.set_cons_succ]
        (with_reducible apply AP.k_any); first | (refine AP.sm false rfl ?_ ?_; focus ((repeat' (with_reducible apply And.intro)) <;> (first | exact True.intro | exact rfl | omega | (simp; omega) | (simp; done) | assumption | exact .inl rfl | (refine .inr ?_; simp; try omega)))) | fail "no step"
        all_goals (try simp only [nx, Nat.reduceAdd, Nat.reduceSub, BEq.rfl])
        refine AP.nil ?_
        exact ⟨rfl, rfl⟩
      · intro h1 h2
        simp [depsOk, Region.binds] at h1 h2
        subst h1
        (repeat (obtain ⟨rfl, h2⟩ := h2))
        (try subst h2)
        clear hcl
        simp only [cond_true, cond_false, setT, List.set_cons_succ, List.set_cons_zero, List.getD_cons_succ, List.getD_cons_zero, List.set_cons_succ]
        (with_reducible apply AP.k_any); first | (refine AP.sm false rfl ?_ ?_; focus ((repeat' (with_reducible apply And.intro)) <;> (first | exact True.intro | exact rfl | omega | (simp; omega) | (simp; done) | assumption | exact .inl rfl | (refine .inr ?_; simp; try omega)))) | fail "no step"
        all_goals (try simp only [nx, Nat.reduceAdd, Nat.reduceSub, BEq.rfl])
        refine AP.nil ?_
        exact ⟨rfl, rfl⟩
      · intro h1 h2
        simp [depsOk, Region.binds] at h1 h2
        subst h1
        (repeat (obtain ⟨rfl, h2⟩ := h2))
        (try subst h2)
        (first | (obtain rfl : l3 = false := by grind only) | skip)
        (first | (obtain rfl : l7 = false := by grind only) | skip)
        clear hcl
        simp only [cond_true, cond_false, setT, List.set_cons_succ, List.set_cons_zero, List.getD_cons_succ, List.getD_cons_zero, List.set_cons_succ]
        (with_reducible apply AP.k_any); first | (refine AP.sm false rfl ?_ ?_; focus ((repeat' (with_reducible apply And.intro)) <;> (first | exact True.intro | exact rfl | omega | (simp; omega) | (simp; done) | assumption | exact .inl rfl | (refine .inr ?_; simp; try omega)))) | (refine AP.el rfl ?_ (by (first | (refine ⟨?_, ?_⟩; assumption; rfl) | exact ⟨mapAt (by (first | omega | (simp; omega) | (simp; done) | assumption)), rfl⟩ | exact ⟨rfl, rfl⟩)) ?_; focus ((repeat' (with_reducible apply And.intro)) <;> (first | exact True.intro | exact rfl | omega | (simp; omega) | (simp; done) | assumption | exact .inl rfl | (refine .inr ?_; simp; try omega)))) | fail "no step"
        all_goals (try simp only [nx, Nat.reduceAdd, Nat.reduceSub, BEq.rfl])
        refine AP.nil ?_
        exact ⟨rfl, rfl⟩
      · intro h1 h2
        simp [depsOk, Region.binds] at h1 h2
        subst h1
        (repeat (obtain ⟨rfl, h2⟩ := h2))
        (try subst h2)
        (first | (obtain rfl : l7 = false := by grind only) | skip)
        clear hcl
        simp only [cond_true, cond_false, setT, List.set_cons_succ, List.set_cons_zero, List.getD_cons_succ, List.getD_cons_zero, List.set_cons_succ]
        (first
        | ((with_reducible apply AP.k_any); refine AP.CB [(0, 0)] 0 (wint_ac st c.epoch hst) ?_)
        | ((with_reducible apply AP.k_any); refine AP.CB [(0, 0)] 0 (wint_ac _ _ h1) ?_)
        | fail "no arm")
        all_goals (try simp only [nx, Nat.reduceAdd, Nat.reduceSub, BEq.rfl])
        refine AP.nil ?_
        exact ⟨rfl, rfl⟩
      · intro h1 h2
        simp [depsOk, Region.binds] at h1 h2
        subst h1
        (repeat (obtain ⟨rfl, h2⟩ := h2))
        (try subst h2)
        clear hcl
        simp only [cond_true, cond_false, setT, List.set_cons_succ, List.set_cons_zero, List.getD_cons_succ, List.getD_cons_zero, List.set_cons_succ]
        (with_reducible apply AP.k_any); first | (refine AP.sm false rfl ?_ ?_; focus ((repeat' (with_reducible apply And.intro)) <;> (first | exact True.intro | exact rfl | omega | (simp; omega) | (simp; done) | assumption | exact .inl rfl | (refine .inr ?_; simp; try omega)))) | fail "no step"
        all_goals (try simp only [nx, Nat.reduceAdd, Nat.reduceSub, BEq.rfl])
        refine AP.nil ?_
        exact ⟨rfl, rfl⟩
      · intro h1 h2
        simp [depsOk, Region.binds] at h1 h2
        subst h1
        (repeat (obtain ⟨rfl, h2⟩ := h2))
        (try subst h2)
        (first | (obtain rfl : l7 = false := by grind only) | skip)
        clear hcl
        simp only [cond_true, cond_false, setT, List.set_cons_succ, List.set_cons_zero, List.getD_cons_succ, List.getD_cons_zero, List.set_cons_succ]
        (with_reducible apply AP.k_any); first | (refine AP.sm false rfl ?_ ?_; focus ((repeat' (with_reducible apply And.intro)) <;> (first | exact True.intro | exact rfl | omega | (simp; omega) | (simp; done) | assumption | exact .inl rfl | (refine .inr ?_; simp; try omega)))) | (refine AP.el rfl ?_ (by (first | (refine ⟨?_, ?_⟩; assumption; rfl) | exact ⟨mapAt (by (first | omega | (simp; omega) | (simp; done) | assumption)), rfl⟩ | exact ⟨rfl, rfl⟩)) ?_; focus ((repeat' (with_reducible apply And.intro)) <;> (first | exact True.intro | exact rfl | omega | (simp; omega) | (simp; done) | assumption | exact .inl rfl | (refine .inr ?_; simp; try omega)))) | fail "no step"
        all_goals (try simp only [nx, Nat.reduceAdd, Nat.reduceSub, BEq.rfl])
        refine AP.nil ?_
        exact ⟨rfl, rfl⟩
      · intro h1 h2
        simp [depsOk, Region.binds] at h1 h2
        subst h1
        (repeat (obtain ⟨rfl, h2⟩ := h2))
        (try subst h2)
        (first | (obtain rfl : l7 = false := by grind only) | skip)
        clear hcl
        simp only [cond_true, cond_false, setT, List.set_cons_succ, List.set_cons_zero, List.getD_cons_succ, List.getD_cons_zero, List.set_cons_succ]
        (with_reducible apply AP.k_any); first | (refine AP.sm false rfl ?_ ?_; focus ((repeat' (with_reducible apply And.intro)) <;> (first | exact True.intro | exact rfl | omega | (simp; omega) | (simp; done) | assumption | exact .inl rfl | (refine .inr ?_; simp; try omega)))) | fail "no step"
        all_goals (try simp only [nx, Nat.reduceAdd, Nat.reduceSub, BEq.rfl])
        refine AP.nil ?_
        exact ⟨rfl, rfl⟩
      · intro h1 h2
        simp [depsOk, Region.binds] at h1 h2
        subst h1
        (repeat (obtain ⟨rfl, h2⟩ := h2))
        (try subst h2)
        (first | (obtain rfl : l3 = true := by grind only) | skip)
        clear hcl
        simp only [cond_true, cond_false, setT, List.set_cons_succ, List.set_cons_zero, List.getD_cons_succ, List.getD_cons_zero, List.set_cons_succ]
        (first
        | ((with_reducible apply AP.k_any); refine AP.CB [(0, 0)] 0 (wint_ac st c.epoch hst) ?_)
        | ((with_reducible apply AP.k_any); refine AP.CB [(0, 0)] 0 (wint_ac _ _ h1) ?_)
        | fail "no arm")
        all_goals (try simp only [nx, Nat.reduceAdd, Nat.reduceSub, BEq.rfl])
        refine AP.nil ?_
        exact ⟨rfl, rfl⟩
  repeat' (first
    | ((first
    | ((with_reducible apply AP.k_any); first
             | refine AP.S ?_
             | refine AP.E ?_
             | refine AP.T ?_
      )
    
    )
      <;> (try simp only [nx, Nat.reduceAdd, Nat.reduceSub, BEq.rfl]))
    | ((with_reducible apply AP.k_nil); first
        | (refine AP.nil (hQ' _ ?_); clear hQ' Q')
        | refine AP.nil ?_)
    | ((with_reducible apply CP.k_reg); refine cp_regG fun Q' hQ' => ?_)
      | (with_reducible apply CP.k_reg1; refine cp_region ?_)
      | ((with_reducible apply CP.k_cond); first | refine cp_condT rfl ?_ | refine cp_condF rfl ?_ | refine cp_cond rfl (fun hc => ?_) (fun hc => ?_))
      | refine CP.go ?_
      | (simp only [List.append_eq, List.cons_append, List.nil_append]))
  refine CP.gh gh_slot ?_
  simp only [nx, Nat.reduceAdd, Nat.reduceSub, BEq.rfl]
  refine cp_loopS [6, 18, 19, 20, 21, 22, 23, 24, 25, 26, 27, 28, 29, 30, 31, 32] (fun a : Nat × (Bool × List UInt8) × Nat × Nat => c.members.length - a.1) (fun a => a.1 ≤ c.members.length ∧ a.2.1 = (c.members.take a.1).foldl putM (addS (addS st (intS c.epoch)) (intS c.members.length)) ∧ a.2.1.2.length ≤ 65536) (fun a => [(18, I a.1)]) (fun a => [(0, ⟨0, .c tW [B true, B a.2.1.1, .hd 1 a.2.2.1]⟩), (1, ⟨a.2.2.1, .r tU 1 (a.2.1.2.map eB)⟩), (3, ⟨a.2.2.2, .x⟩)]) (0, _, 3, 0) ⟨Nat.zero_le _, rfl, h2⟩ (by exact Gh.W) ?_
  rintro ⟨k, sk, u, um⟩ ⟨hk, hs, ha⟩
  simp only [setT, deT, setB, List.set_cons_succ, List.set_cons_zero]
  dsimp only at hk hs ha
  by_cases hlt : k < c.members.length
  · have hw : IntKind.i64.wrap ((k : Int) + 1) = ((k + 1 : Nat) : Int) := wrap_i64 (by omega) (by omega)
    have g1 := addS_len (b := intS c.members[k].node) ha
    have g2 := addS_len (b := intS c.members[k].since) g1
    repeat' (first
      | ((first
      | ((with_reducible apply AP.k_any); first
               | refine AP.S ?_
               | refine AP.E ?_
               | refine AP.T ?_
        )
      
      )
        <;> (try simp only [nx, Nat.reduceAdd, Nat.reduceSub, BEq.rfl]))
      | ((with_reducible apply AP.k_nil); first
          | (refine AP.nil (hQ' _ ?_); clear hQ' Q')
          | refine AP.nil ?_)
      | ((with_reducible apply CP.k_reg); refine cp_regG fun Q' hQ' => ?_)
        | (with_reducible apply CP.k_reg1; refine cp_region ?_)
        | ((with_reducible apply CP.k_cond); first | refine cp_condT rfl ?_ | refine cp_condF rfl ?_ | refine cp_cond rfl (fun hc => ?_) (fun hc => ?_))
        | refine CP.go ?_
        | (simp only [List.append_eq, List.cons_append, List.nil_append]))
    · refine cp_drawI (fun zs zb => ⟨setT zs.t [(22, cond (zb.getD 0 false) (.bp 0 0 0) (.de)), (23, cond (zb.getD 1 false) (.bp 3 (um + 1) 0) (.de)), (24, cond (zb.getD 2 false) (I c.members[k].node) (.de)), (25, cond (zb.getD 3 false) (.bp 0 0 0) (.de)), (26, cond (zb.getD 4 false) (.bp 3 (um + 1) 1) (.de)), (27, cond (zb.getD 5 false) (I c.members[k].since) (.de)), (28, cond (zb.getD 6 false) (.bp 0 0 0) (.de)), (29, cond (zb.getD 7 false) (.bp 3 (um + 1) 2) (.de)), (30, cond (zb.getD 8 false) (B c.members[k].whole) (.de)), (31, cond (zb.getD 9 false) (.bp 0 0 0) (.de))], ((zs.b.set 0 (cond (zb.getD 9 false) (⟨0, .c tW [B true, B (putM sk c.members[k]).1, .hd 1 (u + 1 + 1 + 1)]⟩) (cond (zb.getD 6 false) (⟨0, .c tW [B true, B (addS (addS sk (intS c.members[k].node)) (intS c.members[k].since)).1, .hd 1 (u + 1 + 1)]⟩) (cond (zb.getD 3 false) (⟨0, .c tW [B true, B (addS sk (intS c.members[k].node)).1, .hd 1 (u + 1)]⟩) (zs.b.getD 0 ⟨0, .x⟩))))).set 1 (cond (zb.getD 9 false) (⟨(u + 1 + 1 + 1), .r tU 1 ((putM sk c.members[k]).2.map eB)⟩) (cond (zb.getD 6 false) (⟨(u + 1 + 1), .r tU 1 ((addS (addS sk (intS c.members[k].node)) (intS c.members[k].since)).2.map eB)⟩) (cond (zb.getD 3 false) (⟨(u + 1), .r tU 1 ((addS sk (intS c.members[k].node)).2.map eB)⟩) (zs.b.getD 1 ⟨0, .x⟩)))))⟩) (by kernel_rfl) (by kernel_rfl) (by kernel_rfl) ?_ ?_
      rotate_left
      simp only [cond_true, cond_false, setT, List.set_cons_succ, List.set_cons_zero, List.getD_cons_succ, List.getD_cons_zero, List.set_cons_succ, List.length_cons, List.length_nil, List.replicate_succ, List.replicate_zero, Nat.reduceAdd]
      rotate_left
      · intro b hb' hcl
        obtain ⟨l0, b0, rfl, hb0⟩ := len_cons hb'
        obtain ⟨l1, b1, rfl, hb1⟩ := len_cons hb0
        obtain ⟨l2, b2, rfl, hb2⟩ := len_cons hb1
        obtain ⟨l3, b3, rfl, hb3⟩ := len_cons hb2
        obtain ⟨l4, b4, rfl, hb4⟩ := len_cons hb3
        obtain ⟨l5, b5, rfl, hb5⟩ := len_cons hb4
        obtain ⟨l6, b6, rfl, hb6⟩ := len_cons hb5
        obtain ⟨l7, b7, rfl, hb7⟩ := len_cons hb6
        obtain ⟨l8, b8, rfl, hb8⟩ := len_cons hb7
        obtain ⟨l9, b9, rfl, hb9⟩ := len_cons hb8
        obtain rfl := List.length_eq_zero_iff.1 hb9
        clear hb' hb0 hb1 hb2 hb3 hb4 hb5 hb6 hb7 hb8 hb9
        · simp only [closedB, depsOk, Region.binds, List.toList_toArray, List.all_cons, List.all_nil, List.getD_cons_succ, List.getD_cons_zero, Bool.not_true, Bool.not_false, Bool.true_or, Bool.false_or, Bool.and_true, Bool.true_and, Bool.or_true, Bool.and_false, Bool.or_false, Bool.false_and, Bool.and_eq_true, Bool.or_eq_true, Bool.not_eq_true'] at hcl
          simp only [StepsP]
          refine ⟨?_, ?_, ?_, ?_, ?_, ?_, ?_, ?_, ?_, ?_, trivial⟩
          · intro h1 h2
            simp [depsOk, Region.binds] at h1 h2
            subst h1
            (repeat (obtain ⟨rfl, h2⟩ := h2))
            (try subst h2)
            clear hcl
            simp only [cond_true, cond_false, setT, List.set_cons_succ, List.set_cons_zero, List.getD_cons_succ, List.getD_cons_zero, List.set_cons_succ]
            (with_reducible apply AP.k_any); first | (refine AP.sm false rfl ?_ ?_; focus ((repeat' (with_reducible apply And.intro)) <;> (first | exact True.intro | exact rfl | omega | (simp; omega) | (simp; done) | assumption | exact .inl rfl | (refine .inr ?_; simp; try omega)))) | fail "no step"
            all_goals (try simp only [nx, Nat.reduceAdd, Nat.reduceSub, BEq.rfl])
            refine AP.nil ?_
            exact ⟨rfl, rfl⟩
          · intro h1 h2
            simp [depsOk, Region.binds] at h1 h2
            subst h1
            (repeat (obtain ⟨rfl, h2⟩ := h2))
            (try subst h2)
            clear hcl
            simp only [cond_true, cond_false, setT, List.set_cons_succ, List.set_cons_zero, List.getD_cons_succ, List.getD_cons_zero, List.set_cons_succ]
            (with_reducible apply AP.k_any); first | (refine AP.sm false rfl ?_ ?_; focus ((repeat' (with_reducible apply And.intro)) <;> (first | exact True.intro | exact rfl | omega | (simp; omega) | (simp; done) | assumption | exact .inl rfl | (refine .inr ?_; simp; try omega)))) | fail "no step"
            all_goals (try simp only [nx, Nat.reduceAdd, Nat.reduceSub, BEq.rfl])
            refine AP.nil ?_
            exact ⟨rfl, rfl⟩
          · intro h1 h2
            simp [depsOk, Region.binds] at h1 h2
            subst h1
            (repeat (obtain ⟨rfl, h2⟩ := h2))
            (try subst h2)
            (first | (obtain rfl : l3 = false := by grind only) | skip)
            (first | (obtain rfl : l6 = false := by grind only) | skip)
            (first | (obtain rfl : l9 = false := by grind only) | skip)
            clear hcl
            simp only [cond_true, cond_false, setT, List.set_cons_succ, List.set_cons_zero, List.getD_cons_succ, List.getD_cons_zero, List.set_cons_succ]
            (with_reducible apply AP.k_any); first | (refine AP.sm false rfl ?_ ?_; focus ((repeat' (with_reducible apply And.intro)) <;> (first | exact True.intro | exact rfl | omega | (simp; omega) | (simp; done) | assumption | exact .inl rfl | (refine .inr ?_; simp; try omega)))) | (refine AP.el rfl ?_ (by (first | (refine ⟨?_, ?_⟩; assumption; rfl) | exact ⟨mapAt (by (first | omega | (simp; omega) | (simp; done) | assumption)), rfl⟩ | exact ⟨rfl, rfl⟩)) ?_; focus ((repeat' (with_reducible apply And.intro)) <;> (first | exact True.intro | exact rfl | omega | (simp; omega) | (simp; done) | assumption | exact .inl rfl | (refine .inr ?_; simp; try omega)))) | fail "no step"
            all_goals (try simp only [nx, Nat.reduceAdd, Nat.reduceSub, BEq.rfl])
            refine AP.nil ?_
            exact ⟨rfl, rfl⟩
          · intro h1 h2
            simp [depsOk, Region.binds] at h1 h2
            subst h1
            (repeat (obtain ⟨rfl, h2⟩ := h2))
            (try subst h2)
            (first | (obtain rfl : l6 = false := by grind only) | skip)
            (first | (obtain rfl : l9 = false := by grind only) | skip)
            clear hcl
            simp only [cond_true, cond_false, setT, List.set_cons_succ, List.set_cons_zero, List.getD_cons_succ, List.getD_cons_zero, List.set_cons_succ]
            (first
            | ((with_reducible apply AP.k_any); refine AP.CB [(0, 0)] 0 (wint_ac sk _ ha) ?_)
            | ((with_reducible apply AP.k_any); refine AP.CB [(0, 0)] 0 (wint_ac _ _ g1) ?_)
            | ((with_reducible apply AP.k_any); refine AP.CB [(0, 0)] 0 (wflag_ac _ _ g2) ?_)
            | fail "no arm")
            all_goals (try simp only [nx, Nat.reduceAdd, Nat.reduceSub, BEq.rfl])
            refine AP.nil ?_
            exact ⟨rfl, rfl⟩
          · intro h1 h2
            simp [depsOk, Region.binds] at h1 h2
            subst h1
            (repeat (obtain ⟨rfl, h2⟩ := h2))
            (try subst h2)
            clear hcl
            simp only [cond_true, cond_false, setT, List.set_cons_succ, List.set_cons_zero, List.getD_cons_succ, List.getD_cons_zero, List.set_cons_succ]
            (with_reducible apply AP.k_any); first | (refine AP.sm false rfl ?_ ?_; focus ((repeat' (with_reducible apply And.intro)) <;> (first | exact True.intro | exact rfl | omega | (simp; omega) | (simp; done) | assumption | exact .inl rfl | (refine .inr ?_; simp; try omega)))) | fail "no step"
            all_goals (try simp only [nx, Nat.reduceAdd, Nat.reduceSub, BEq.rfl])
            refine AP.nil ?_
            exact ⟨rfl, rfl⟩
          · intro h1 h2
            simp [depsOk, Region.binds] at h1 h2
            subst h1
            (repeat (obtain ⟨rfl, h2⟩ := h2))
            (try subst h2)
            (first | (obtain rfl : l6 = false := by grind only) | skip)
            (first | (obtain rfl : l9 = false := by grind only) | skip)
            clear hcl
            simp only [cond_true, cond_false, setT, List.set_cons_succ, List.set_cons_zero, List.getD_cons_succ, List.getD_cons_zero, List.set_cons_succ]
            (with_reducible apply AP.k_any); first | (refine AP.sm false rfl ?_ ?_; focus ((repeat' (with_reducible apply And.intro)) <;> (first | exact True.intro | exact rfl | omega | (simp; omega) | (simp; done) | assumption | exact .inl rfl | (refine .inr ?_; simp; try omega)))) | (refine AP.el rfl ?_ (by (first | (refine ⟨?_, ?_⟩; assumption; rfl) | exact ⟨mapAt (by (first | omega | (simp; omega) | (simp; done) | assumption)), rfl⟩ | exact ⟨rfl, rfl⟩)) ?_; focus ((repeat' (with_reducible apply And.intro)) <;> (first | exact True.intro | exact rfl | omega | (simp; omega) | (simp; done) | assumption | exact .inl rfl | (refine .inr ?_; simp; try omega)))) | fail "no step"
            all_goals (try simp only [nx, Nat.reduceAdd, Nat.reduceSub, BEq.rfl])
            refine AP.nil ?_
            exact ⟨rfl, rfl⟩
          · intro h1 h2
            simp [depsOk, Region.binds] at h1 h2
            subst h1
            (repeat (obtain ⟨rfl, h2⟩ := h2))
            (try subst h2)
            (first | (obtain rfl : l3 = true := by grind only) | skip)
            (first | (obtain rfl : l9 = false := by grind only) | skip)
            clear hcl
            simp only [cond_true, cond_false, setT, List.set_cons_succ, List.set_cons_zero, List.getD_cons_succ, List.getD_cons_zero, List.set_cons_succ]
            (first
            | ((with_reducible apply AP.k_any); refine AP.CB [(0, 0)] 0 (wint_ac sk _ ha) ?_)
            | ((with_reducible apply AP.k_any); refine AP.CB [(0, 0)] 0 (wint_ac _ _ g1) ?_)
            | ((with_reducible apply AP.k_any); refine AP.CB [(0, 0)] 0 (wflag_ac _ _ g2) ?_)
            | fail "no arm")
            all_goals (try simp only [nx, Nat.reduceAdd, Nat.reduceSub, BEq.rfl])
            refine AP.nil ?_
            exact ⟨rfl, rfl⟩
          · intro h1 h2
            simp [depsOk, Region.binds] at h1 h2
            subst h1
            (repeat (obtain ⟨rfl, h2⟩ := h2))
            (try subst h2)
            clear hcl
            simp only [cond_true, cond_false, setT, List.set_cons_succ, List.set_cons_zero, List.getD_cons_succ, List.getD_cons_zero, List.set_cons_succ]
            (with_reducible apply AP.k_any); first | (refine AP.sm false rfl ?_ ?_; focus ((repeat' (with_reducible apply And.intro)) <;> (first | exact True.intro | exact rfl | omega | (simp; omega) | (simp; done) | assumption | exact .inl rfl | (refine .inr ?_; simp; try omega)))) | fail "no step"
            all_goals (try simp only [nx, Nat.reduceAdd, Nat.reduceSub, BEq.rfl])
            refine AP.nil ?_
            exact ⟨rfl, rfl⟩
          · intro h1 h2
            simp [depsOk, Region.binds] at h1 h2
            subst h1
            (repeat (obtain ⟨rfl, h2⟩ := h2))
            (try subst h2)
            (first | (obtain rfl : l9 = false := by grind only) | skip)
            clear hcl
            simp only [cond_true, cond_false, setT, List.set_cons_succ, List.set_cons_zero, List.getD_cons_succ, List.getD_cons_zero, List.set_cons_succ]
            (with_reducible apply AP.k_any); first | (refine AP.sm false rfl ?_ ?_; focus ((repeat' (with_reducible apply And.intro)) <;> (first | exact True.intro | exact rfl | omega | (simp; omega) | (simp; done) | assumption | exact .inl rfl | (refine .inr ?_; simp; try omega)))) | (refine AP.el rfl ?_ (by (first | (refine ⟨?_, ?_⟩; assumption; rfl) | exact ⟨mapAt (by (first | omega | (simp; omega) | (simp; done) | assumption)), rfl⟩ | exact ⟨rfl, rfl⟩)) ?_; focus ((repeat' (with_reducible apply And.intro)) <;> (first | exact True.intro | exact rfl | omega | (simp; omega) | (simp; done) | assumption | exact .inl rfl | (refine .inr ?_; simp; try omega)))) | fail "no step"
            all_goals (try simp only [nx, Nat.reduceAdd, Nat.reduceSub, BEq.rfl])
            refine AP.nil ?_
            exact ⟨rfl, rfl⟩
          · intro h1 h2
            simp [depsOk, Region.binds] at h1 h2
            subst h1
            (repeat (obtain ⟨rfl, h2⟩ := h2))
            (try subst h2)
            (first | (obtain rfl : l3 = true := by grind only) | skip)
            (first | (obtain rfl : l6 = true := by grind only) | skip)
            clear hcl
            simp only [cond_true, cond_false, setT, List.set_cons_succ, List.set_cons_zero, List.getD_cons_succ, List.getD_cons_zero, List.set_cons_succ]
            (first
            | ((with_reducible apply AP.k_any); refine AP.CB [(0, 0)] 0 (wint_ac sk _ ha) ?_)
            | ((with_reducible apply AP.k_any); refine AP.CB [(0, 0)] 0 (wint_ac _ _ g1) ?_)
            | ((with_reducible apply AP.k_any); refine AP.CB [(0, 0)] 0 (wflag_ac _ _ g2) ?_)
            | fail "no arm")
            all_goals (try simp only [nx, Nat.reduceAdd, Nat.reduceSub, BEq.rfl])
            refine AP.nil ?_
            exact ⟨rfl, rfl⟩
      repeat' (first
        | ((first
        | ((with_reducible apply AP.k_any); first
                 | refine AP.S ?_
                 | refine AP.E ?_
                 | refine AP.T ?_
          )
        
        )
          <;> (try simp only [nx, Nat.reduceAdd, Nat.reduceSub, BEq.rfl]))
        | ((with_reducible apply AP.k_nil); first
            | (refine AP.nil (hQ' _ ?_); clear hQ' Q')
            | refine AP.nil ?_)
        | ((with_reducible apply CP.k_reg); refine cp_regG fun Q' hQ' => ?_)
          | (with_reducible apply CP.k_reg1; refine cp_region ?_)
          | ((with_reducible apply CP.k_cond); first | refine cp_condT rfl ?_ | refine cp_condF rfl ?_ | refine cp_cond rfl (fun hc => ?_) (fun hc => ?_))
          | refine CP.go ?_
          | (simp only [List.append_eq, List.cons_append, List.nil_append]))
      simp only [hw]
      exact ⟨(k + 1, putM sk c.members[k], u + 1 + 1 + 1, um + 1), by (dsimp only; omega), ⟨by (dsimp only; omega), by (dsimp only; rw [List.take_succ_eq_append_getElem hlt, List.foldl_append, ← hs]; rfl), putM_len ha⟩, by exact Gh.W⟩
    · exfalso; simp at *; omega
  · obtain rfl : k = c.members.length := by omega
    rw [List.take_length] at hs
    have hs' : sk = putC st c := hs
    rw [← hs']
    repeat' (first
      | ((first
      | ((with_reducible apply AP.k_any); first
               | refine AP.S ?_
               | refine AP.E ?_
               | refine AP.T ?_
        )
      
      )
        <;> (try simp only [nx, Nat.reduceAdd, Nat.reduceSub, BEq.rfl]))
      | ((with_reducible apply AP.k_nil); first
          | (refine AP.nil (hQ' _ ?_); clear hQ' Q')
          | refine AP.nil ?_)
      | ((with_reducible apply CP.k_reg); refine cp_regG fun Q' hQ' => ?_)
        | (with_reducible apply CP.k_reg1; refine cp_region ?_)
        | ((with_reducible apply CP.k_cond); first | refine cp_condT rfl ?_ | refine cp_condF rfl ?_ | refine cp_cond rfl (fun hc => ?_) (fun hc => ?_))
        | refine CP.go ?_
        | (simp only [List.append_eq, List.cons_append, List.nil_append]))
    all_goals first
      | (exfalso; simp at *; done)
      | (exfalso; simp at *; omega)
      | (exact RetQ.A [(0, 0)] (by exact ⟨rfl, rfl⟩))
end Go.Proofs.Ytkdbedbefojieaa

namespace Go.Proofs.Ytkdbedbefojieaa
set_option linter.unusedVariables false
set_option linter.unusedSimpArgs false
set_option maxHeartbeats 8000000
open Go.RowKit
set_option maxRecDepth 100000
def ent0 : Entry := ⟨0, 0, 0, 0, []⟩
def book0 : Book := ⟨⟨0, []⟩, 0, false, 0⟩
def noB (r : Record) : Bool := r.book.cfg.epoch == 0 && r.book.cfg.members.length == 0 && r.book.since == 0 && !r.book.whole && r.book.upto == 0 && !r.drop
def noE (r : Record) : Bool := r.entry.pos == 0 && r.entry.stamp == 0 && r.entry.client == 0 && r.entry.id == 0 && r.entry.body.length == 0
def mayR (r : Record) : Bool :=
  if (r.kind.toNat : Int) = 1 then noE r && mayCfg r.book.cfg && decide (0 ≤ r.book.since) && decide (r.book.since ≤ r.book.cfg.epoch) && decide (0 ≤ r.book.upto)
  else if (r.kind.toNat : Int) = 2 then noB r && mayE r.entry
  else if (r.kind.toNat : Int) = 3 ∨ (r.kind.toNat : Int) = 4 then noB r && noE r else false
theorem noE_ac (r : Record) : AC Try.prog 53 [.ag (eR r)] [] (fun v bs => v = B (noE r) ∧ bs = []) := by
  refine AC.N Try.func53 Try.ntmps53 ?_
  intro X
  simp only [nx, Nat.reduceAdd, Nat.reduceSub, BEq.rfl]
  repeat' (first
    | ((first
    | ((with_reducible apply AP.k_any); first
             | refine AP.S ?_
             | (refine AP.Y ?_; dsimp only) | refine AP.G (fun hg => ?_) (fun hg => ?_)
      )
    
    
    )
      <;> (try simp only [nx, Nat.reduceAdd, Nat.reduceSub, BEq.rfl]))
    | ((with_reducible apply AP.k_nil); first
        | (refine AP.nil (hQ' _ ?_); clear hQ' Q')
        | refine AP.nil ?_)
    | ((with_reducible apply CP.k_reg); refine cp_regG fun Q' hQ' => ?_)
      | (with_reducible apply CP.k_reg1; refine cp_region ?_)
      | ((with_reducible apply CP.k_cond); first | refine cp_condT rfl ?_ | refine cp_condF rfl ?_ | refine cp_cond rfl (fun hc => ?_) (fun hc => ?_))
      | refine CP.go ?_
      | (simp only [List.append_eq, List.cons_append, List.nil_append]))
  all_goals (refine RetQ.B [] ?_; (try dsimp only [resV, List.getD_cons_succ, List.getD_cons_zero]); ((refine ⟨?_, rfl⟩; simp at *; simp [noE, *]; try (first | omega | (rw [Bool.eq_iff_iff]; simp)))))
theorem noB_ac (r : Record) : AC Try.prog 55 [.ag (eR r)] [] (fun v bs => v = B (noB r) ∧ bs = []) := by
  refine AC.N Try.func55 Try.ntmps55 ?_
  intro X
  simp only [nx, Nat.reduceAdd, Nat.reduceSub, BEq.rfl]
  repeat' (first
    | ((first
    | ((with_reducible apply AP.k_any); first
             | refine AP.S ?_
             | (refine AP.Y ?_; dsimp only) | refine AP.G (fun hg => ?_) (fun hg => ?_)
      )
    
    
    )
      <;> (try simp only [nx, Nat.reduceAdd, Nat.reduceSub, BEq.rfl]))
    | ((with_reducible apply AP.k_nil); first
        | (refine AP.nil (hQ' _ ?_); clear hQ' Q')
        | refine AP.nil ?_)
    | ((with_reducible apply CP.k_reg); refine cp_regG fun Q' hQ' => ?_)
      | (with_reducible apply CP.k_reg1; refine cp_region ?_)
      | ((with_reducible apply CP.k_cond); first | refine cp_condT rfl ?_ | refine cp_condF rfl ?_ | refine cp_cond rfl (fun hc => ?_) (fun hc => ?_))
      | refine CP.go ?_
      | (simp only [List.append_eq, List.cons_append, List.nil_append]))
  all_goals (refine RetQ.B [] ?_; (try dsimp only [resV, List.getD_cons_succ, List.getD_cons_zero]); ((refine ⟨?_, rfl⟩; simp at *; simp [noB, *]; try omega)))
theorem mayR_ac (r : Record) (hl : r.book.cfg.members.length ≤ 100000000) : AC Try.prog 28 [.ag (eR r)] [] (fun v bs => v = B (mayR r) ∧ bs = []) := by
  refine AC.N Try.func28 Try.ntmps28 ?_
  intro X
  simp only [nx, Nat.reduceAdd, Nat.reduceSub, BEq.rfl]
  repeat' (first
    | ((first
    | ((with_reducible apply AP.k_any); first
             | refine AP.S ?_
             | (refine AP.Y ?_; dsimp only) | refine AP.G (fun hg => ?_) (fun hg => ?_)
      )
    | ((with_reducible apply AP.k_any); refine AP.C (noE_ac r) ?_)
    | ((with_reducible apply AP.k_any); refine AP.C (noB_ac r) ?_)
    | ((with_reducible apply AP.k_any); refine AP.C (mayConfig_ac r.book.cfg hl) ?_)
    | ((with_reducible apply AP.k_any); refine AP.C (mayEntry_ac r.entry) ?_)
    )
      <;> (try simp only [nx, Nat.reduceAdd, Nat.reduceSub, BEq.rfl]))
    | ((with_reducible apply AP.k_nil); first
        | (refine AP.nil (hQ' _ ?_); clear hQ' Q')
        | refine AP.nil ?_)
    | ((with_reducible apply CP.k_reg); refine cp_regG fun Q' hQ' => ?_)
      | (with_reducible apply CP.k_reg1; refine cp_region ?_)
      | ((with_reducible apply CP.k_cond); first | refine cp_condT rfl ?_ | refine cp_condF rfl ?_ | refine cp_cond rfl (fun hc => ?_) (fun hc => ?_))
      | refine CP.go ?_
      | (simp only [List.append_eq, List.cons_append, List.nil_append]))
  all_goals (refine RetQ.B [] ?_; (try dsimp only [resV, List.getD_cons_succ, List.getD_cons_zero]); ((refine ⟨?_, rfl⟩; simp at *; simp [mayR, *]; try omega)))
end Go.Proofs.Ytkdbedbefojieaa

namespace Go.Proofs.Ytkdbedbefojieaa
set_option linter.unusedVariables false
set_option linter.unusedSimpArgs false
set_option maxHeartbeats 8000000
open Go.RowKit
set_option maxRecDepth 100000
def rec0 : Record := ⟨0, book0, false, ent0⟩
def bookR (st : Int × List UInt8) : Book × (Int × List UInt8) :=
  (⟨(configR st).1, (intR (configR st).2).1, (flagR (intR (configR st).2).2).1, (intR (flagR (intR (configR st).2).2).2).1⟩, (intR (flagR (intR (configR st).2).2).2).2)
def recR (st : Int × List UInt8) : Record × (Int × List UInt8) :=
  if (byteR st).1 = 1 then (⟨1, (bookR (byteR st).2).1, (flagR (bookR (byteR st).2).2).1, ent0⟩, (flagR (bookR (byteR st).2).2).2)
  else if (byteR st).1 = 2 then (⟨2, book0, false, (entryR (byteR st).2).1⟩, (entryR (byteR st).2).2)
  else (⟨(byteR st).1, book0, false, ent0⟩, (byteR st).2)
def parseS (b : List UInt8) : Record × Int := if endR (recR (newR b)).2 = 0 ∧ mayR (recR (newR b)).1 = true then ((recR (newR b)).1, 0) else (rec0, 200)
theorem newR_len {b : List UInt8} {k : Nat} (h : b.length ≤ k) : (newR b).2.length ≤ k := by
  unfold newR
  split
  · simp
  · exact h
theorem configR_mem (st : Int × List UInt8) : (configR st).1.members.length ≤ 5 := by
  have := countR_le (m := 5) (st := (intR st).2) (by omega)
  show (memsR _ _).1.length ≤ 5
  rw [memsR_fst_len]
  omega
theorem u8_int {x : UInt8} {n : UInt8} : ((x.toNat : Int) = (n.toNat : Int)) ↔ x = n := by
  rw [← UInt8.toNat_inj]; omega
theorem rp_pos {y : Record × Int} {p : Prop} [Decidable p] {x : Record} (hy : y = if p then (x, 0) else (rec0, 200)) (h : p) : AV.tu [.ag (eR y.1), I y.2] = AV.tu [.ag (eR x), I 0] := by rw [hy, if_pos h]
theorem rp_neg {y : Record × Int} {p : Prop} [Decidable p] {x : Record} (hy : y = if p then (x, 0) else (rec0, 200)) (h : ¬ p) : AV.tu [.ag (eR y.1), I y.2] = AV.tu [.ag (eR rec0), I 200] := by rw [hy, if_neg h]
theorem parse_ac (b : List UInt8) (hb : b.length ≤ 100000000) :
    AC Try.prog 32 [bs none b] [] (fun v bs => v = .tu [.ag (eR (parseS b).1), I (parseS b).2] ∧ bs = []) := by
  have h0 : (newR b).2.length ≤ 100000000 := newR_len hb
  have h1 := byteR_len h0
  have c1 := configR_len h1
  have c2 := intR_len c1
  have c3 := flagR_len c2
  have c4 := intR_len c3
  have hm := configR_mem (byteR (newR b)).2
  refine AC.N Try.func32 Try.ntmps32 ?_
  intro X
  simp only [nx, Nat.reduceAdd, Nat.reduceSub, BEq.rfl]
  repeat' (first
    | ((first
    | ((with_reducible apply AP.k_any); first
             | refine AP.S ?_
             | (refine AP.Y ?_; dsimp only) | refine AP.G (fun hg => ?_) (fun hg => ?_)
      )
    | ((with_reducible apply AP.k_any); refine AP.CB [] 1 (rnew_ac b hb) ?_)
    | ((with_reducible apply AP.k_any); refine AP.CB [(1, 1)] 0 (rbyte_ac (newR b) h0) ?_)
    | ((with_reducible apply AP.k_any); refine AP.CB [(1, 1)] 0 (takeConfig_ac _ h1) ?_)
    | ((with_reducible apply AP.k_any); refine AP.CB [(1, 1)] 0 (rint_ac _ c1) ?_)
    | ((with_reducible apply AP.k_any); refine AP.CB [(1, 1)] 0 (rflag_ac _ c2) ?_)
    | ((with_reducible apply AP.k_any); refine AP.CB [(1, 1)] 0 (rint_ac _ c3) ?_)
    | ((with_reducible apply AP.k_any); refine AP.CB [(1, 1)] 0 (rflag_ac _ c4) ?_)
    | ((with_reducible apply AP.k_any); refine AP.CB [(1, 1)] 0 (takeEntry_ac _ h1) ?_)
    )
      <;> (try simp only [nx, Nat.reduceAdd, Nat.reduceSub, BEq.rfl]))
    | ((with_reducible apply AP.k_nil); first
        | (refine AP.nil (hQ' _ ?_); clear hQ' Q')
        | refine AP.nil ?_)
    | ((with_reducible apply CP.k_reg); refine cp_regG fun Q' hQ' => ?_)
      | (with_reducible apply CP.k_reg1; refine cp_region ?_)
      | ((with_reducible apply CP.k_cond); first | refine cp_condT rfl ?_ | refine cp_condF rfl ?_ | refine cp_cond rfl (fun hc => ?_) (fun hc => ?_))
      | refine CP.go ?_
      | (simp only [List.append_eq, List.cons_append, List.nil_append]))
  · have hk : (byteR (newR b)).1 = 1 := by simp at *; exact u8_int.1 (by simpa using hc)
    have hk' : ((byteR (newR b)).1.toNat : Int) = ((1 : UInt8).toNat : Int) := by rw [hk]
    simp only [hk'] at hc ⊢
    clear hk'
    have hr : recR (newR b) = ((⟨1, (bookR (byteR (newR b)).2).1, (flagR (bookR (byteR (newR b)).2).2).1, ent0⟩ : Record), (flagR (bookR (byteR (newR b)).2).2).2) := by (unfold recR; rw [if_pos hk])
    have hp : parseS b = if endR (flagR (bookR (byteR (newR b)).2).2).2 = 0 ∧ mayR (⟨1, (bookR (byteR (newR b)).2).1, (flagR (bookR (byteR (newR b)).2).2).1, ent0⟩ : Record) = true then ((⟨1, (bookR (byteR (newR b)).2).1, (flagR (bookR (byteR (newR b)).2).2).1, ent0⟩ : Record), 0) else (rec0, 200) := by simp only [parseS, hr]
    clear hr
    repeat' (first
      | ((first
      | ((with_reducible apply AP.k_any); first
               | refine AP.S ?_
               | (refine AP.Y ?_; dsimp only) | refine AP.G (fun hg => ?_) (fun hg => ?_)
        )
      | ((with_reducible apply AP.k_any); refine AP.CB [(1, 1)] 0 (rend_ac (flagR (bookR (byteR (newR b)).2).2).2) ?_)
        | ((with_reducible apply AP.k_any); refine AP.C (mayR_ac (⟨1, (bookR (byteR (newR b)).2).1, (flagR (bookR (byteR (newR b)).2).2).1, ent0⟩ : Record) (Nat.le_trans hm (by omega))) ?_)
      )
        <;> (try simp only [nx, Nat.reduceAdd, Nat.reduceSub, BEq.rfl]))
      | ((with_reducible apply AP.k_nil); first
          | (refine AP.nil (hQ' _ ?_); clear hQ' Q')
          | refine AP.nil ?_)
      | ((with_reducible apply CP.k_reg); refine cp_regG fun Q' hQ' => ?_)
        | (with_reducible apply CP.k_reg1; refine cp_region ?_)
        | ((with_reducible apply CP.k_cond); first | refine cp_condT rfl ?_ | refine cp_condF rfl ?_ | refine cp_cond rfl (fun hc => ?_) (fun hc => ?_))
        | refine CP.go ?_
        | (simp only [List.append_eq, List.cons_append, List.nil_append]))
    all_goals first
      | ((have hq : ¬ (endR (flagR (bookR (byteR (newR b)).2).2).2 = 0 ∧ mayR (⟨1, (bookR (byteR (newR b)).2).1, (flagR (bookR (byteR (newR b)).2).2).1, ent0⟩ : Record) = true) := by simp at *; simp [*])
         (exact RetQ.A [] (by exact ⟨(rp_neg hp hq).symm, rfl⟩)))
      | ((have hq : endR (flagR (bookR (byteR (newR b)).2).2).2 = 0 ∧ mayR (⟨1, (bookR (byteR (newR b)).2).1, (flagR (bookR (byteR (newR b)).2).2).1, ent0⟩ : Record) = true := by simp at *; simp [*])
         (exact RetQ.A [] (by exact ⟨(rp_pos hp hq).symm, rfl⟩)))
  · have hk : (byteR (newR b)).1 = 2 := by simp at *; exact u8_int.1 (by simpa using hc)
    have hk' : ((byteR (newR b)).1.toNat : Int) = ((2 : UInt8).toNat : Int) := by rw [hk]
    simp only [hk'] at hc ⊢
    clear hk'
    have hr : recR (newR b) = ((⟨2, book0, false, (entryR (byteR (newR b)).2).1⟩ : Record), (entryR (byteR (newR b)).2).2) := by (unfold recR; rw [if_neg (by rw [hk]; decide), if_pos hk])
    have hp : parseS b = if endR (entryR (byteR (newR b)).2).2 = 0 ∧ mayR (⟨2, book0, false, (entryR (byteR (newR b)).2).1⟩ : Record) = true then ((⟨2, book0, false, (entryR (byteR (newR b)).2).1⟩ : Record), 0) else (rec0, 200) := by simp only [parseS, hr]
    clear hr
    repeat' (first
      | ((first
      | ((with_reducible apply AP.k_any); first
               | refine AP.S ?_
               | (refine AP.Y ?_; dsimp only) | refine AP.G (fun hg => ?_) (fun hg => ?_)
        )
      | ((with_reducible apply AP.k_any); refine AP.CB [(1, 1)] 0 (rend_ac (entryR (byteR (newR b)).2).2) ?_)
        | ((with_reducible apply AP.k_any); refine AP.C (mayR_ac (⟨2, book0, false, (entryR (byteR (newR b)).2).1⟩ : Record) (by simp [book0])) ?_)
      )
        <;> (try simp only [nx, Nat.reduceAdd, Nat.reduceSub, BEq.rfl]))
      | ((with_reducible apply AP.k_nil); first
          | (refine AP.nil (hQ' _ ?_); clear hQ' Q')
          | refine AP.nil ?_)
      | ((with_reducible apply CP.k_reg); refine cp_regG fun Q' hQ' => ?_)
        | (with_reducible apply CP.k_reg1; refine cp_region ?_)
        | ((with_reducible apply CP.k_cond); first | refine cp_condT rfl ?_ | refine cp_condF rfl ?_ | refine cp_cond rfl (fun hc => ?_) (fun hc => ?_))
        | refine CP.go ?_
        | (simp only [List.append_eq, List.cons_append, List.nil_append]))
    all_goals first
      | ((have hq : ¬ (endR (entryR (byteR (newR b)).2).2 = 0 ∧ mayR (⟨2, book0, false, (entryR (byteR (newR b)).2).1⟩ : Record) = true) := by simp at *; simp [*])
         (exact RetQ.A [] (by exact ⟨(rp_neg hp hq).symm, rfl⟩)))
      | ((have hq : endR (entryR (byteR (newR b)).2).2 = 0 ∧ mayR (⟨2, book0, false, (entryR (byteR (newR b)).2).1⟩ : Record) = true := by simp at *; simp [*])
         (exact RetQ.A [] (by exact ⟨(rp_pos hp hq).symm, rfl⟩)))
  · have hk1 : ¬ (byteR (newR b)).1 = 1 := by intro h; simp [h] at *
    have hk2 : ¬ (byteR (newR b)).1 = 2 := by intro h; simp [h] at *
    have hr : recR (newR b) = ((⟨(byteR (newR b)).1, book0, false, ent0⟩ : Record), (byteR (newR b)).2) := by (unfold recR; rw [if_neg hk1, if_neg hk2])
    have hp : parseS b = if endR (byteR (newR b)).2 = 0 ∧ mayR (⟨(byteR (newR b)).1, book0, false, ent0⟩ : Record) = true then ((⟨(byteR (newR b)).1, book0, false, ent0⟩ : Record), 0) else (rec0, 200) := by simp only [parseS, hr]
    clear hr
    repeat' (first
      | ((first
      | ((with_reducible apply AP.k_any); first
               | refine AP.S ?_
               | (refine AP.Y ?_; dsimp only) | refine AP.G (fun hg => ?_) (fun hg => ?_)
        )
      | ((with_reducible apply AP.k_any); refine AP.CB [(1, 1)] 0 (rend_ac (byteR (newR b)).2) ?_)
        | ((with_reducible apply AP.k_any); refine AP.C (mayR_ac (⟨(byteR (newR b)).1, book0, false, ent0⟩ : Record) (by simp [book0])) ?_)
      )
        <;> (try simp only [nx, Nat.reduceAdd, Nat.reduceSub, BEq.rfl]))
      | ((with_reducible apply AP.k_nil); first
          | (refine AP.nil (hQ' _ ?_); clear hQ' Q')
          | refine AP.nil ?_)
      | ((with_reducible apply CP.k_reg); refine cp_regG fun Q' hQ' => ?_)
        | (with_reducible apply CP.k_reg1; refine cp_region ?_)
        | ((with_reducible apply CP.k_cond); first | refine cp_condT rfl ?_ | refine cp_condF rfl ?_ | refine cp_cond rfl (fun hc => ?_) (fun hc => ?_))
        | refine CP.go ?_
        | (simp only [List.append_eq, List.cons_append, List.nil_append]))
    all_goals first
      | ((have hq : ¬ (endR (byteR (newR b)).2 = 0 ∧ mayR (⟨(byteR (newR b)).1, book0, false, ent0⟩ : Record) = true) := by simp at *; simp [*])
         (exact RetQ.A [] (by exact ⟨(rp_neg hp hq).symm, rfl⟩)))
      | ((have hq : endR (byteR (newR b)).2 = 0 ∧ mayR (⟨(byteR (newR b)).1, book0, false, ent0⟩ : Record) = true := by simp at *; simp [*])
         (exact RetQ.A [] (by exact ⟨(rp_pos hp hq).symm, rfl⟩)))
end Go.Proofs.Ytkdbedbefojieaa

namespace Go.Proofs.Ytkdbedbefojieaa
set_option linter.unusedVariables false
set_option linter.unusedSimpArgs false
set_option maxHeartbeats 8000000
open Go.RowKit
set_option maxRecDepth 100000
theorem dclient_ac (who id : Int) : AC Try.prog 94 [I who, I id] [] (fun v bs => v = B (clientS who id) ∧ bs = []) := by
  refine AC.N Try.func94 Try.ntmps94 ?_
  intro X
  simp only [nx, Nat.reduceAdd, Nat.reduceSub, BEq.rfl]
  repeat' (first
    | ((first
    | ((with_reducible apply AP.k_any); first
             | refine AP.S ?_
             | (refine AP.Y ?_; dsimp only) | refine AP.G (fun hg => ?_) (fun hg => ?_)
      )
    
    
    )
      <;> (try simp only [nx, Nat.reduceAdd, Nat.reduceSub, BEq.rfl]))
    | ((with_reducible apply AP.k_nil); first
        | (refine AP.nil (hQ' _ ?_); clear hQ' Q')
        | refine AP.nil ?_)
    | ((with_reducible apply CP.k_reg); refine cp_regG fun Q' hQ' => ?_)
      | (with_reducible apply CP.k_reg1; refine cp_region ?_)
      | ((with_reducible apply CP.k_cond); first | refine cp_condT rfl ?_ | refine cp_condF rfl ?_ | refine cp_cond rfl (fun hc => ?_) (fun hc => ?_))
      | refine CP.go ?_
      | (simp only [List.append_eq, List.cons_append, List.nil_append]))
  all_goals (refine RetQ.B [] ?_; (try dsimp only [resV, List.getD_cons_succ, List.getD_cons_zero]); ((refine ⟨?_, rfl⟩; simp at *; simp [clientS]; try omega)))
theorem dmayEntry_ac (e : Entry) : AC Try.prog 58 [.ag (eE none e)] [] (fun v bs => v = B (mayE e) ∧ bs = []) := by
  refine AC.N Try.func58 Try.ntmps58 ?_
  intro X
  simp only [nx, Nat.reduceAdd, Nat.reduceSub, BEq.rfl]
  repeat' (first
    | ((first
    | ((with_reducible apply AP.k_any); first
             | refine AP.S ?_
             | (refine AP.Y ?_; dsimp only) | refine AP.G (fun hg => ?_) (fun hg => ?_)
      )
    | ((with_reducible apply AP.k_any); refine AP.C (dclient_ac _ _) ?_)
    
    | ((with_reducible apply AQ.k_any); refine AQ.CQ (dclient_ac _ _) ?_))
      <;> (try simp only [nx, Nat.reduceAdd, Nat.reduceSub, BEq.rfl]))
    | ((with_reducible apply AP.k_nil); first
        | (refine AP.nil (hQ' _ ?_); clear hQ' Q')
        | refine AP.nil ?_)
    | ((with_reducible apply CP.k_reg); refine cp_regG fun Q' hQ' => ?_)
      | (with_reducible apply CP.k_reg1; refine cp_region ?_)
      | ((with_reducible apply CP.k_cond); first | refine cp_condT rfl ?_ | refine cp_condF rfl ?_ | refine cp_cond rfl (fun hc => ?_) (fun hc => ?_))
      | refine CP.go ?_
      | (simp only [List.append_eq, List.cons_append, List.nil_append]))
  all_goals (refine RetQ.B [] ?_; (try dsimp only [resV, List.getD_cons_succ, List.getD_cons_zero]); ((refine ⟨?_, rfl⟩; simp at *; simp [mayE, *]; try omega)))
theorem dmayConfig_ac (c : Config) (hl : c.members.length ≤ 100000000) : AC Try.prog 57 [.ag (eC none c)] [] (fun v bs => v = B (mayCfg c) ∧ bs = []) := by
  refine AC.N Try.func57 Try.ntmps57 ?_
  intro X
  simp only [nx, Nat.reduceAdd, Nat.reduceSub, BEq.rfl]
  repeat' (first
    | ((first
    | ((with_reducible apply AP.k_any); first
             | refine AP.S ?_
             | refine AP.E ?_
             | (refine AP.Y ?_; dsimp only) | refine AP.G (fun hg => ?_) (fun hg => ?_)
             | refine AP.T ?_
             | (refine AP.V (fun c hnil => ?_); simp only [nz])
      )
    
    )
      <;> (try simp only [nx, Nat.reduceAdd, Nat.reduceSub, BEq.rfl]))
    | ((with_reducible apply AP.k_nil); first
        | (refine AP.nil (hQ' _ ?_); clear hQ' Q')
        | refine AP.nil ?_)
    | ((with_reducible apply CP.k_reg); refine cp_regG fun Q' hQ' => ?_)
      | (with_reducible apply CP.k_reg1; refine cp_region ?_)
      | ((with_reducible apply CP.k_cond); first | refine cp_condT rfl ?_ | refine cp_condF rfl ?_ | refine cp_cond rfl (fun hc => ?_) (fun hc => ?_))
      | refine CP.go ?_
      | (simp only [List.append_eq, List.cons_append, List.nil_append]))
  · (refine RetQ.B [] ?_; (try dsimp only [resV, List.getD_cons_succ, List.getD_cons_zero]); ((have h : mayCfg c = false := by (simp [mayCfg]; simp at *; omega)); exact ⟨by rw [h], rfl⟩))
  · (refine RetQ.B [] ?_; (try dsimp only [resV, List.getD_cons_succ, List.getD_cons_zero]); ((have h : mayCfg c = false := by (simp [mayCfg]; simp at *; omega)); exact ⟨by rw [h], rfl⟩))
  have hm : mayCfg c = allG (pMem c) 0 c.members := by
    have e1 : 1 ≤ c.epoch := by simp at *; omega
    have e2 : c.members.length ≤ 5 := by simp at *; omega
    simp [mayCfg, e1, e2]
  refine CP.gh gh_slot ?_; simp only [nx, Nat.reduceAdd, Nat.reduceSub, BEq.rfl]
  refine cp_loopS [2, 3, 4, 5, 15, 16, 17, 18, 19, 20, 21, 22, 23, 24, 25, 26, 27, 28, 29, 30, 31, 32, 33, 34, 35, 36, 37, 38, 39, 40, 41, 42, 43, 44, 45, 46, 47, 48, 49, 50, 51, 52, 53, 54, 55, 56, 57, 58, 59, 60] (fun a : Nat × Nat => c.members.length - a.1) (fun a => a.1 ≤ c.members.length ∧ mayCfg c = allG (pMem c) a.1 (c.members.drop a.1)) (fun a => [(3, I a.1)]) (fun a => [(1, ⟨a.2, .x⟩)]) (0, 0) ⟨Nat.zero_le _, hm⟩ (by exact Gh.W) ?_
  rintro ⟨i, u⟩ ⟨hi, he⟩
  simp only [setT, deT, setB, List.set_cons_succ, List.set_cons_zero]
  dsimp only at hi he
  by_cases hlt : i < c.members.length
  · have hw : IntKind.i64.wrap ((i : Int) + 1) = ((i + 1 : Nat) : Int) := wrap_i64 (by omega) (by omega)
    rw [List.drop_eq_getElem_cons hlt, allG] at he
    repeat' (first
      | ((first
      | ((with_reducible apply AP.k_any); first
               | refine AP.S ?_
               | refine AP.E ?_
               | (refine AP.Y ?_; dsimp only) | refine AP.G (fun hg => ?_) (fun hg => ?_)
               | refine AP.T ?_
               | (refine AP.V (fun c hnil => ?_); simp only [nz])
        )
      
      )
        <;> (try simp only [nx, Nat.reduceAdd, Nat.reduceSub, BEq.rfl]))
      | ((with_reducible apply AP.k_nil); first
          | (refine AP.nil (hQ' _ ?_); clear hQ' Q')
          | refine AP.nil ?_)
      | ((with_reducible apply CP.k_reg); refine cp_regG fun Q' hQ' => ?_)
        | (with_reducible apply CP.k_reg1; refine cp_region ?_)
        | ((with_reducible apply CP.k_cond); first | refine cp_condT rfl ?_ | refine cp_condF rfl ?_ | refine cp_cond rfl (fun hc => ?_) (fun hc => ?_))
        | refine CP.go ?_
        | (simp only [List.append_eq, List.cons_append, List.nil_append]))
    · (refine RetQ.B [] ?_; (try dsimp only [resV, List.getD_cons_succ, List.getD_cons_zero]); ((have h : pMem c i c.members[i] = false := by (cases h : pMem c i c.members[i] with | false => rfl | true => (exfalso; clear he hm hw; simp [pMem] at h; simp at *; omega))); exact ⟨by rw [he, h, Bool.false_and], rfl⟩))
    · (refine RetQ.B [] ?_; (try dsimp only [resV, List.getD_cons_succ, List.getD_cons_zero]); ((have h : pMem c i c.members[i] = false := by (cases h : pMem c i c.members[i] with | false => rfl | true => (exfalso; clear he hm hw; simp [pMem] at h; simp at *; omega))); exact ⟨by rw [he, h, Bool.false_and], rfl⟩))
    · (refine RetQ.B [] ?_; (try dsimp only [resV, List.getD_cons_succ, List.getD_cons_zero]); ((have h : pMem c i c.members[i] = false := by (cases h : pMem c i c.members[i] with | false => rfl | true => (exfalso; clear he hm hw; simp [pMem] at h; simp at *; omega))); exact ⟨by rw [he, h, Bool.false_and], rfl⟩))
    · (refine RetQ.B [] ?_; (try dsimp only [resV, List.getD_cons_succ, List.getD_cons_zero]); ((have h : pMem c i c.members[i] = false := by (cases h : pMem c i c.members[i] with | false => rfl | true => (exfalso; clear he hm hw; simp [pMem] at h; simp at *; omega))); exact ⟨by rw [he, h, Bool.false_and], rfl⟩))
    · have hq : pMem c i c.members[i] = allG (pNode c.members[i].node) 0 (c.members.take i) := by
        have f1 : 0 ≤ c.members[i].node := by clear he hm hw; simp at *; omega
        have f2 : c.members[i].node < 5 := by clear he hm hw; simp at *; omega
        have f3 : 1 ≤ c.members[i].since := by clear he hm hw; simp at *; omega
        have f4 : c.members[i].since ≤ c.epoch := by clear he hm hw; simp at *; omega
        simp [pMem, f1, f2, f3, f4]
      rw [hq] at he
      refine cp_loopS [2, 5, 47, 48, 49, 50, 51, 52, 53, 54, 55, 56, 57, 58, 59, 60] (fun k : Nat => i - k) (fun k => k ≤ i ∧ allG (pNode c.members[i].node) 0 (c.members.take i) = allG (pNode c.members[i].node) k ((c.members.take i).drop k)) (fun k => [(5, I k)]) (fun _ => []) 0 ⟨Nat.zero_le _, rfl⟩ (by exact Gh.W) ?_
      rintro k ⟨hk, hke⟩
      simp only [setT, deT, setB, List.set_cons_succ, List.set_cons_zero]
      by_cases hlk : k < i
      · have hwk : IntKind.i64.wrap ((k : Int) + 1) = ((k + 1 : Nat) : Int) := wrap_i64 (by omega) (by omega)
        have hkm : k < c.members.length := by omega
        have e5 : (c.members.take i).drop k = c.members[k] :: (c.members.take i).drop (k + 1) := by
          rw [List.drop_eq_getElem_cons (by simp; omega)]
          simp
        rw [e5, allG] at hke
        repeat' (first
          | ((first
          | ((with_reducible apply AP.k_any); first
                   | refine AP.S ?_
                   | refine AP.E ?_
                   | (refine AP.Y ?_; dsimp only) | refine AP.G (fun hg => ?_) (fun hg => ?_)
                   | refine AP.T ?_
                   | (refine AP.V (fun c hnil => ?_); simp only [nz])
            )
          
          | ((with_reducible apply AQ.k_any); first
                          | refine AQ.S ?_
                          | refine AQ.E ?_
                          | (refine AQ.Y ?_; dsimp only) | refine AQ.G (fun hg => ?_) (fun hg => ?_)
            )
          )
            <;> (try simp only [nx, Nat.reduceAdd, Nat.reduceSub, BEq.rfl]))
          | ((with_reducible apply AP.k_nil); first
              | (refine AP.nil (hQ' _ ?_); clear hQ' Q')
              | refine AP.nil ?_)
          | ((with_reducible apply AQ.k_nil); first | (refine AQ.nil (hQ' _ ?_); clear hQ' Q') | refine AQ.nil ?_)
          | ((with_reducible apply CP.k_drw); refine cp_drw (by kernel_rfl) (by kernel_rfl) fun Q' hQ' => ?_)
          | ((with_reducible apply CP.k_drw1); refine cp_draw (by kernel_rfl) (by kernel_rfl) ?_)
          | ((with_reducible apply CP.k_reg); refine cp_regG fun Q' hQ' => ?_)
            | (with_reducible apply CP.k_reg1; refine cp_region ?_)
            | ((with_reducible apply CP.k_cond); first | refine cp_condT rfl ?_ | refine cp_condF rfl ?_ | refine cp_cond rfl (fun hc => ?_) (fun hc => ?_))
            | refine CP.go ?_
            | (simp only [List.append_eq, List.cons_append, List.nil_append]))
        · have h : pNode c.members[i].node k c.members[k] = false := by simp [pNode]; simpa using hc
          (refine RetQ.B [] ?_; (try dsimp only [resV, List.getD_cons_succ, List.getD_cons_zero]); (exact ⟨by rw [he, hke, h, Bool.false_and, Bool.false_and], rfl⟩))
        · have h : pNode c.members[i].node k c.members[k] = true := by simp [pNode]; simpa using hc
          simp only [hwk]
          exact ⟨k + 1, by omega, ⟨by omega, by rw [hke, h, Bool.true_and]⟩, by exact Gh.W⟩
        · exfalso; simp at *; omega
      · obtain rfl : k = i := by omega
        rw [List.drop_of_length_le (by simp; omega), allG] at hke
        repeat' (first
          | ((first
          | ((with_reducible apply AP.k_any); first
                   | refine AP.S ?_
                   | refine AP.E ?_
                   | (refine AP.Y ?_; dsimp only) | refine AP.G (fun hg => ?_) (fun hg => ?_)
                   | refine AP.T ?_
                   | (refine AP.V (fun c hnil => ?_); simp only [nz])
            )
          
          | ((with_reducible apply AQ.k_any); first
                          | refine AQ.S ?_
                          | refine AQ.E ?_
                          | (refine AQ.Y ?_; dsimp only) | refine AQ.G (fun hg => ?_) (fun hg => ?_)
            )
          )
            <;> (try simp only [nx, Nat.reduceAdd, Nat.reduceSub, BEq.rfl]))
          | ((with_reducible apply AP.k_nil); first
              | (refine AP.nil (hQ' _ ?_); clear hQ' Q')
              | refine AP.nil ?_)
          | ((with_reducible apply AQ.k_nil); first | (refine AQ.nil (hQ' _ ?_); clear hQ' Q') | refine AQ.nil ?_)
          | ((with_reducible apply CP.k_drw); refine cp_drw (by kernel_rfl) (by kernel_rfl) fun Q' hQ' => ?_)
          | ((with_reducible apply CP.k_drw1); refine cp_draw (by kernel_rfl) (by kernel_rfl) ?_)
          | ((with_reducible apply CP.k_reg); refine cp_regG fun Q' hQ' => ?_)
            | (with_reducible apply CP.k_reg1; refine cp_region ?_)
            | ((with_reducible apply CP.k_cond); first | refine cp_condT rfl ?_ | refine cp_condF rfl ?_ | refine cp_cond rfl (fun hc => ?_) (fun hc => ?_))
            | refine CP.go ?_
            | (simp only [List.append_eq, List.cons_append, List.nil_append]))
        · exfalso; simp at *
        · simp only [hw]
          exact ⟨(k + 1, u + 1), by (dsimp only; omega), ⟨by (dsimp only; omega), by (dsimp only; rw [he, hke, Bool.true_and])⟩, by exact Gh.W⟩
    · exfalso; simp at *; omega
  · rw [List.drop_of_length_le (by omega), allG] at he
    repeat' (first
      | ((first
      | ((with_reducible apply AP.k_any); first
               | refine AP.S ?_
               | refine AP.E ?_
               | (refine AP.Y ?_; dsimp only) | refine AP.G (fun hg => ?_) (fun hg => ?_)
               | refine AP.T ?_
               | (refine AP.V (fun c hnil => ?_); simp only [nz])
        )
      
      )
        <;> (try simp only [nx, Nat.reduceAdd, Nat.reduceSub, BEq.rfl]))
      | ((with_reducible apply AP.k_nil); first
          | (refine AP.nil (hQ' _ ?_); clear hQ' Q')
          | refine AP.nil ?_)
      | ((with_reducible apply CP.k_reg); refine cp_regG fun Q' hQ' => ?_)
        | (with_reducible apply CP.k_reg1; refine cp_region ?_)
        | ((with_reducible apply CP.k_cond); first | refine cp_condT rfl ?_ | refine cp_condF rfl ?_ | refine cp_cond rfl (fun hc => ?_) (fun hc => ?_))
        | refine CP.go ?_
        | (simp only [List.append_eq, List.cons_append, List.nil_append]))
    all_goals first
      | (exfalso; simp at *; done)
      | (exfalso; simp at *; omega)
      | (refine RetQ.B [] ?_; (try dsimp only [resV, List.getD_cons_succ, List.getD_cons_zero]); (exact ⟨by rw [he], rfl⟩))
end Go.Proofs.Ytkdbedbefojieaa

namespace Go.Proofs.Ytkdbedbefojieaa
set_option linter.unusedVariables false
set_option linter.unusedSimpArgs false
set_option maxHeartbeats 8000000
open Go.RowKit
set_option maxRecDepth 100000
theorem bclone_ac (a : List UInt8) (ha : a.length ≤ 100000000) :
    AC Try.prog 42 [bs none a] [] (fun v bs' => v = bs (some tU) a ∧ bs' = []) := by
  refine AC.N Try.func42 Try.ntmps42 ?_
  intro X
  simp only [nx, Nat.reduceAdd, Nat.reduceSub, BEq.rfl]
  repeat' (first
    | ((first
    | ((with_reducible apply AP.k_any); first
             | refine AP.S ?_
             | (refine AP.V (fun c hnil => ?_); simp only [nz])
      )
    
    
    )
      <;> (try simp only [nx, Nat.reduceAdd, Nat.reduceSub, BEq.rfl]))
    | ((with_reducible apply AP.k_nil); first
        | (refine AP.nil (hQ' _ ?_); clear hQ' Q')
        | refine AP.nil ?_)
    | ((with_reducible apply CP.k_reg); refine cp_regG fun Q' hQ' => ?_)
      | (with_reducible apply CP.k_reg1; refine cp_region ?_)
      | ((with_reducible apply CP.k_cond); first | refine cp_condT rfl ?_ | refine cp_condF rfl ?_ | refine cp_cond rfl (fun hc => ?_) (fun hc => ?_))
      | refine CP.go ?_
      | (simp only [List.append_eq, List.cons_append, List.nil_append]))
  · obtain rfl : a = [] := by simpa using hnil hc
    (exact RetQ.A [] (by exact ⟨rfl, rfl⟩))
  · (refine RetQ.B [] ?_; (try dsimp only [resV, List.getD_cons_succ, List.getD_cons_zero]); (exact ⟨by simp, rfl⟩))
theorem mclone_ac (a : List Member) (ha : a.length ≤ 100000000) :
    AC Try.prog 79 [ms none a] [] (fun v bs' => v = ms (some tM) a ∧ bs' = []) := by
  refine AC.N Try.func79 Try.ntmps79 ?_
  intro X
  simp only [nx, Nat.reduceAdd, Nat.reduceSub, BEq.rfl]
  repeat' (first
    | ((first
    | ((with_reducible apply AP.k_any); first
             | refine AP.S ?_
             | (refine AP.V (fun c hnil => ?_); simp only [nz])
      )
    
    
    )
      <;> (try simp only [nx, Nat.reduceAdd, Nat.reduceSub, BEq.rfl]))
    | ((with_reducible apply AP.k_nil); first
        | (refine AP.nil (hQ' _ ?_); clear hQ' Q')
        | refine AP.nil ?_)
    | ((with_reducible apply CP.k_reg); refine cp_regG fun Q' hQ' => ?_)
      | (with_reducible apply CP.k_reg1; refine cp_region ?_)
      | ((with_reducible apply CP.k_cond); first | refine cp_condT rfl ?_ | refine cp_condF rfl ?_ | refine cp_cond rfl (fun hc => ?_) (fun hc => ?_))
      | refine CP.go ?_
      | (simp only [List.append_eq, List.cons_append, List.nil_append]))
  · obtain rfl : a = [] := by simpa using hnil hc
    (exact RetQ.A [] (by exact ⟨rfl, rfl⟩))
  · (refine RetQ.B [] ?_; (try dsimp only [resV, List.getD_cons_succ, List.getD_cons_zero]); (exact ⟨by simp, rfl⟩))
theorem rconfig_ac (c : Config) (ha : c.members.length ≤ 100000000) :
    AC Try.prog 11 [.ag (eC none c)] [] (fun v bs' => v = .ag (eC (some tM) c) ∧ bs' = []) := by
  refine AC.N Try.func11 Try.ntmps11 ?_
  intro X
  simp only [nx, Nat.reduceAdd, Nat.reduceSub, BEq.rfl]
  repeat' (first
    | ((first
    | ((with_reducible apply AP.k_any); first
             | refine AP.S ?_
      )
    
    
    )
      <;> (try simp only [nx, Nat.reduceAdd, Nat.reduceSub, BEq.rfl]))
    | ((with_reducible apply AP.k_nil); first
        | (refine AP.nil (hQ' _ ?_); clear hQ' Q')
        | refine AP.nil ?_)
    | ((with_reducible apply CP.k_reg); refine cp_regG fun Q' hQ' => ?_)
      | (with_reducible apply CP.k_reg1; refine cp_region ?_)
      | ((with_reducible apply CP.k_cond); first | refine cp_condT rfl ?_ | refine cp_condF rfl ?_ | refine cp_cond rfl (fun hc => ?_) (fun hc => ?_))
      | refine CP.go ?_
      | (simp only [List.append_eq, List.cons_append, List.nil_append]))
  (refine RetQ.B [] ?_; (try dsimp only [resV, List.getD_cons_succ, List.getD_cons_zero]); (exact ⟨by simp, rfl⟩))
end Go.Proofs.Ytkdbedbefojieaa

namespace Go.Proofs.Ytkdbedbefojieaa
set_option linter.unusedVariables false
set_option linter.unusedSimpArgs false
set_option maxHeartbeats 8000000
open Go.RowKit
set_option maxRecDepth 100000
theorem eq_member (a b : Member) (w : World) : (Op.equal tM (.agg [.int .i64 a.node, .int .i64 a.since, .bool a.whole].toArray) (.agg [.int .i64 b.node, .int .i64 b.since, .bool b.whole].toArray)).run Try.prog w = .ok (a.node == b.node && a.since == b.since && a.whole == b.whole) w := by
  show (Op.equalIn (9999 + 1) tM _ _).run Try.prog w = _
  rw [run_equalIn_struct w 9999 tM _ _ (by kernel_rfl) (by kernel_rfl)]
  have hi := Try.underlying3
  have hb := Try.underlying4
  simp [Program.fieldsOf, Try.underlying34, Op.eqFields, go_sem, part, isAgg, hi, hb, run_underlying hi, run_underlying hb]
  by_cases h1 : a.node = b.node <;> by_cases h2 : a.since = b.since <;> by_cases h3 : a.whole = b.whole <;> simp [h1, h2, h3]
theorem sameEntry_ac (a b : Entry) (ha : a.body.length ≤ 1000000000) :
    AC Try.prog 77 [.ag (eE none a), .ag (eE none b)] [] (fun v bs' => v = B (eqE a b) ∧ bs' = []) := by
  refine AC.N Try.func77 Try.ntmps77 ?_
  intro X
  simp only [nx, Nat.reduceAdd, Nat.reduceSub, BEq.rfl]
  repeat' (first
    | ((first
    | ((with_reducible apply AP.k_any); first
             | refine AP.S ?_
             | (refine AP.Y ?_; dsimp only) | refine AP.G (fun hg => ?_) (fun hg => ?_)
      )
    | ((with_reducible apply AP.k_any); refine AP.CQ (same_ac _ _ ha) ?_)
    
    )
      <;> (try simp only [nx, Nat.reduceAdd, Nat.reduceSub, BEq.rfl]))
    | ((with_reducible apply AP.k_nil); first
        | (refine AP.nil (hQ' _ ?_); clear hQ' Q')
        | refine AP.nil ?_)
    | ((with_reducible apply CP.k_reg); refine cp_regG fun Q' hQ' => ?_)
      | (with_reducible apply CP.k_reg1; refine cp_region ?_)
      | ((with_reducible apply CP.k_cond); first | refine cp_condT rfl ?_ | refine cp_condF rfl ?_ | refine cp_cond rfl (fun hc => ?_) (fun hc => ?_))
      | refine CP.go ?_
      | (simp only [List.append_eq, List.cons_append, List.nil_append]))
  all_goals (refine RetQ.B [] ?_; (try dsimp only [resV, List.getD_cons_succ, List.getD_cons_zero]); (exact ⟨by simp_all [eqE], rfl⟩))
theorem sameConfig_ac (a b : Config) (ha : a.members.length ≤ 1000000000) :
    AC Try.prog 38 [.ag (eC none a), .ag (eC none b)] [] (fun v bs' => v = B (eqC a b) ∧ bs' = []) := by
  refine AC.N Try.func38 Try.ntmps38 ?_
  intro X
  simp only [nx, Nat.reduceAdd, Nat.reduceSub, BEq.rfl]
  repeat' (first
    | ((first
    | ((with_reducible apply AP.k_any); first
             | refine AP.S ?_
             | refine AP.E ?_
             | (refine AP.Y ?_; dsimp only) | refine AP.G (fun hg => ?_) (fun hg => ?_)
             | (refine AP.V (fun c hnil => ?_); simp only [nz])
      )
    
    | ((with_reducible apply AQ.k_any); first
                    | refine AQ.S ?_
                    | refine AQ.E ?_
                    | (refine AQ.Y ?_; dsimp only) | refine AQ.G (fun hg => ?_) (fun hg => ?_)
      )
    | ((with_reducible apply AQ.k_bin); refine AQ.pure rfl (pq_eqAg rfl rfl rfl rfl rfl (by kernel_rfl) (eq_member _ _) rfl) ?_; simp only [nx, Nat.reduceAdd, Nat.reduceSub, BEq.rfl]))
      <;> (try simp only [nx, Nat.reduceAdd, Nat.reduceSub, BEq.rfl]))
    | ((with_reducible apply AP.k_nil); first
        | (refine AP.nil (hQ' _ ?_); clear hQ' Q')
        | refine AP.nil ?_)
    | ((with_reducible apply AQ.k_nil); first | (refine AQ.nil (hQ' _ ?_); clear hQ' Q') | refine AQ.nil ?_)
    | ((with_reducible apply CP.k_drw); refine cp_drw (by kernel_rfl) (by kernel_rfl) fun Q' hQ' => ?_)
    | ((with_reducible apply CP.k_drw1); refine cp_draw (by kernel_rfl) (by kernel_rfl) ?_)
    | ((with_reducible apply CP.k_reg); refine cp_regG fun Q' hQ' => ?_)
      | (with_reducible apply CP.k_reg1; refine cp_region ?_)
      | ((with_reducible apply CP.k_cond); first | refine cp_condT rfl ?_ | refine cp_condF rfl ?_ | refine cp_cond rfl (fun hc => ?_) (fun hc => ?_))
      | refine CP.go ?_
      | (simp only [List.append_eq, List.cons_append, List.nil_append]))
  · (refine RetQ.B [] ?_; (try dsimp only [resV, List.getD_cons_succ, List.getD_cons_zero]); (exact ⟨by simp at hg; simp [eqC, hg], rfl⟩))
  · (refine RetQ.B [] ?_; (try dsimp only [resV, List.getD_cons_succ, List.getD_cons_zero]); ((have h8 : a.members.length ≠ b.members.length := by simp at hc; omega); exact ⟨by simp [eqC, eqMs_len h8], rfl⟩))
  · have hl : a.members.length = b.members.length := by simp at hc; omega
    have he0 : a.epoch = b.epoch := by simpa using hg
    refine cp_loopW (fun n s => ∃ k : Nat, k ≤ a.members.length ∧ n = a.members.length - k ∧ a.members.take k = b.members.take k ∧ s = ⟨tm 38 [(2, .bp 0 1 0), (3, .bp 1 1 0), (4, B false), (5, I k)], [⟨1, .c 24 (eC none a)⟩, ⟨1, .c 24 (eC none b)⟩]⟩) a.members.length ⟨tm 38 [(2, .bp 0 1 0), (3, .bp 1 1 0), (4, B false), (5, I (0 : Nat))], [⟨1, .c 24 (eC none a)⟩, ⟨1, .c 24 (eC none b)⟩]⟩ (by simp only [tm, List.foldl_cons, List.foldl_nil, List.replicate_succ, List.replicate_zero, List.set_cons_succ, List.set_cons_zero, Nat.reduceAdd]; (refine ⟨?_, ?_⟩ <;> (try dsimp only) <;> (repeat' (first | exact Wk.nil | exact WkB.nil | apply Wk.same | apply Wk.de | apply Wk.nl | apply WkB.same | apply WkB.drop)))) ⟨0, by omega, by omega, by simp, rfl⟩ ?_
    rintro n s ⟨k, hk, rfl, he, rfl⟩
    simp only [tm, List.foldl_cons, List.foldl_nil, List.replicate_succ, List.replicate_zero, List.set_cons_succ, List.set_cons_zero, Nat.reduceAdd]
    by_cases hlt : k < a.members.length
    · have hx : (a.members.map eM)[k]? = some (eM a.members[k]) := by simp [hlt]
      have hy : (b.members.map eM)[k]? = some (eM (b.members[k]'(by omega))) := by simp [show k < b.members.length by omega]
      have hw : IntKind.i64.wrap ((k : Int) + 1) = ((k + 1 : Nat) : Int) := wrap_i64 (by omega) (by omega)
      repeat' (first
        | ((first
        | ((with_reducible apply AP.k_any); first
                 | refine AP.S ?_
                 | refine AP.E ?_
                 | (refine AP.Y ?_; dsimp only) | refine AP.G (fun hg => ?_) (fun hg => ?_)
                 | (refine AP.V (fun c hnil => ?_); simp only [nz])
          )
        
        | ((with_reducible apply AQ.k_any); first
                        | refine AQ.S ?_
                        | refine AQ.E ?_
                        | (refine AQ.Y ?_; dsimp only) | refine AQ.G (fun hg => ?_) (fun hg => ?_)
          )
        | ((with_reducible apply AQ.k_bin); refine AQ.pure rfl (pq_eqAg rfl rfl rfl rfl rfl (by kernel_rfl) (eq_member _ _) rfl) ?_; simp only [nx, Nat.reduceAdd, Nat.reduceSub, BEq.rfl]))
          <;> (try simp only [nx, Nat.reduceAdd, Nat.reduceSub, BEq.rfl]))
        | ((with_reducible apply AP.k_nil); first
            | (refine AP.nil (hQ' _ ?_); clear hQ' Q')
            | refine AP.nil ?_)
        | ((with_reducible apply AQ.k_nil); first | (refine AQ.nil (hQ' _ ?_); clear hQ' Q') | refine AQ.nil ?_)
        | ((with_reducible apply CP.k_drw); refine cp_drw (by kernel_rfl) (by kernel_rfl) fun Q' hQ' => ?_)
        | ((with_reducible apply CP.k_drw1); refine cp_draw (by kernel_rfl) (by kernel_rfl) ?_)
        | ((with_reducible apply CP.k_reg); refine cp_regG fun Q' hQ' => ?_)
          | (with_reducible apply CP.k_reg1; refine cp_region ?_)
          | ((with_reducible apply CP.k_cond); first | refine cp_condT rfl ?_ | refine cp_condF rfl ?_ | refine cp_cond rfl (fun hc => ?_) (fun hc => ?_))
          | refine CP.go ?_
          | (simp only [List.append_eq, List.cons_append, List.nil_append]))
      · (refine RetQ.B [] ?_; (try dsimp only [resV, List.getD_cons_succ, List.getD_cons_zero]); ((have h : eqC a b = false := by (cases h9 : eqC a b with | false => rfl | true => (rw [eqC_iff] at h9; subst h9; simp at *))); exact ⟨by rw [h], rfl⟩))
      · simp only [hw]
        refine ⟨a.members.length - (k + 1), ⟨tm 38 [(2, .bp 0 1 0), (3, .bp 1 1 0), (4, B false), (5, I (k + 1 : Nat))], [⟨1, .c 24 (eC none a)⟩, ⟨1, .c 24 (eC none b)⟩]⟩, by omega, (by simp only [tm, List.foldl_cons, List.foldl_nil, List.replicate_succ, List.replicate_zero, List.set_cons_succ, List.set_cons_zero, Nat.reduceAdd]; (refine ⟨?_, ?_⟩ <;> (try dsimp only) <;> (repeat' (first | exact Wk.nil | exact WkB.nil | apply Wk.same | apply Wk.de | apply Wk.nl | apply WkB.same | apply WkB.drop)))), k + 1, by omega, rfl, take_ext he hlt (by omega) ?_, rfl⟩
        rename_i hc
        exact eqM_iff.1 (by simpa [eqM] using hc)
      · exfalso; simp at *; omega
    · have hk' : k = a.members.length := by omega
      have hab : a = b := by
        rw [hk', List.take_of_length_le (Nat.le_refl _), List.take_of_length_le (by omega)] at he
        cases a; cases b; simp at he he0 ⊢; exact ⟨he0, he⟩
      have h9 : eqC a b = true := eqC_iff.2 hab
      repeat' (first
        | ((first
        | ((with_reducible apply AP.k_any); first
                 | refine AP.S ?_
                 | refine AP.E ?_
                 | (refine AP.Y ?_; dsimp only) | refine AP.G (fun hg => ?_) (fun hg => ?_)
                 | (refine AP.V (fun c hnil => ?_); simp only [nz])
          )
        
        | ((with_reducible apply AQ.k_any); first
                        | refine AQ.S ?_
                        | refine AQ.E ?_
                        | (refine AQ.Y ?_; dsimp only) | refine AQ.G (fun hg => ?_) (fun hg => ?_)
          )
        | ((with_reducible apply AQ.k_bin); refine AQ.pure rfl (pq_eqAg rfl rfl rfl rfl rfl (by kernel_rfl) (eq_member _ _) rfl) ?_; simp only [nx, Nat.reduceAdd, Nat.reduceSub, BEq.rfl]))
          <;> (try simp only [nx, Nat.reduceAdd, Nat.reduceSub, BEq.rfl]))
        | ((with_reducible apply AP.k_nil); first
            | (refine AP.nil (hQ' _ ?_); clear hQ' Q')
            | refine AP.nil ?_)
        | ((with_reducible apply AQ.k_nil); first | (refine AQ.nil (hQ' _ ?_); clear hQ' Q') | refine AQ.nil ?_)
        | ((with_reducible apply CP.k_drw); refine cp_drw (by kernel_rfl) (by kernel_rfl) fun Q' hQ' => ?_)
        | ((with_reducible apply CP.k_drw1); refine cp_draw (by kernel_rfl) (by kernel_rfl) ?_)
        | ((with_reducible apply CP.k_reg); refine cp_regG fun Q' hQ' => ?_)
          | (with_reducible apply CP.k_reg1; refine cp_region ?_)
          | ((with_reducible apply CP.k_cond); first | refine cp_condT rfl ?_ | refine cp_condF rfl ?_ | refine cp_cond rfl (fun hc => ?_) (fun hc => ?_))
          | refine CP.go ?_
          | (simp only [List.append_eq, List.cons_append, List.nil_append]))
      all_goals first
        | (exfalso; simp at *; omega)
        | (refine RetQ.B [] ?_; (try dsimp only [resV, List.getD_cons_succ, List.getD_cons_zero]); (exact ⟨by rw [h9], rfl⟩))
theorem sameEntries_ac (a b : List Entry) (ha : a.length ≤ 1000000000) (hb : ∀ x ∈ a, x.body.length ≤ 1000000000) :
    AC Try.prog 41 [es none none a, es none none b] [] (fun v bs' => v = B (eqEs a b) ∧ bs' = []) := by
  refine AC.N Try.func41 Try.ntmps41 ?_
  intro X
  simp only [nx, Nat.reduceAdd, Nat.reduceSub, BEq.rfl]
  repeat' (first
    | ((first
    | ((with_reducible apply AP.k_any); first
             | refine AP.S ?_
             | refine AP.E ?_
             | (refine AP.V (fun c hnil => ?_); simp only [nz])
      )
    
    | ((with_reducible apply AQ.k_any); first
                    | refine AQ.S ?_
                    | refine AQ.E ?_
      )
    )
      <;> (try simp only [nx, Nat.reduceAdd, Nat.reduceSub, BEq.rfl]))
    | ((with_reducible apply AP.k_nil); first
        | (refine AP.nil (hQ' _ ?_); clear hQ' Q')
        | refine AP.nil ?_)
    | ((with_reducible apply AQ.k_nil); first | (refine AQ.nil (hQ' _ ?_); clear hQ' Q') | refine AQ.nil ?_)
    | ((with_reducible apply CP.k_drw); refine cp_drw (by kernel_rfl) (by kernel_rfl) fun Q' hQ' => ?_)
    | ((with_reducible apply CP.k_drw1); refine cp_draw (by kernel_rfl) (by kernel_rfl) ?_)
    | ((with_reducible apply CP.k_reg); refine cp_regG fun Q' hQ' => ?_)
      | (with_reducible apply CP.k_reg1; refine cp_region ?_)
      | ((with_reducible apply CP.k_cond); first | refine cp_condT rfl ?_ | refine cp_condF rfl ?_ | refine cp_cond rfl (fun hc => ?_) (fun hc => ?_))
      | refine CP.go ?_
      | (simp only [List.append_eq, List.cons_append, List.nil_append]))
  · (refine RetQ.B [] ?_; (try dsimp only [resV, List.getD_cons_succ, List.getD_cons_zero]); ((have h8 : a.length ≠ b.length := by simp at hc; omega); exact ⟨by simp [eqEs_len h8], rfl⟩))
  · have hl : a.length = b.length := by simp at hc; omega
    refine cp_loopW (fun n s => ∃ k : Nat, k ≤ a.length ∧ n = a.length - k ∧ a.take k = b.take k ∧ s = ⟨tm 27 [(0, es none none a), (1, es none none b), (4, B false), (5, I k)], []⟩) a.length ⟨tm 27 [(0, es none none a), (1, es none none b), (4, B false), (5, I (0 : Nat))], []⟩ (by simp only [tm, List.foldl_cons, List.foldl_nil, List.replicate_succ, List.replicate_zero, List.set_cons_succ, List.set_cons_zero, Nat.reduceAdd]; (refine ⟨?_, ?_⟩ <;> (try dsimp only) <;> (repeat' (first | exact Wk.nil | exact WkB.nil | apply Wk.same | apply Wk.de | apply Wk.nl | apply WkB.same | apply WkB.drop)))) ⟨0, by omega, by omega, by simp, rfl⟩ ?_
    rintro n s ⟨k, hk, rfl, he, rfl⟩
    simp only [tm, List.foldl_cons, List.foldl_nil, List.replicate_succ, List.replicate_zero, List.set_cons_succ, List.set_cons_zero, Nat.reduceAdd]
    by_cases hlt : k < a.length
    · have hx : (a.map (eE none))[k]? = some (eE none a[k]) := by simp [hlt]
      have hy : (b.map (eE none))[k]? = some (eE none (b[k]'(by omega))) := by simp [show k < b.length by omega]
      have hw : IntKind.i64.wrap ((k : Int) + 1) = ((k + 1 : Nat) : Int) := wrap_i64 (by omega) (by omega)
      repeat' (first
        | ((first
        | ((with_reducible apply AP.k_any); first
                 | refine AP.S ?_
                 | refine AP.E ?_
                 | (refine AP.V (fun c hnil => ?_); simp only [nz])
          )
        
        | ((with_reducible apply AQ.k_any); first
                        | refine AQ.S ?_
                        | refine AQ.E ?_
          )
        | ((with_reducible apply AQ.k_any); refine AQ.CQ (sameEntry_ac a[k] (b[k]'(by omega)) (hb _ (by simp))) ?_))
          <;> (try simp only [nx, Nat.reduceAdd, Nat.reduceSub, BEq.rfl]))
        | ((with_reducible apply AP.k_nil); first
            | (refine AP.nil (hQ' _ ?_); clear hQ' Q')
            | refine AP.nil ?_)
        | ((with_reducible apply AQ.k_nil); first | (refine AQ.nil (hQ' _ ?_); clear hQ' Q') | refine AQ.nil ?_)
        | ((with_reducible apply CP.k_drw); refine cp_drw (by kernel_rfl) (by kernel_rfl) fun Q' hQ' => ?_)
        | ((with_reducible apply CP.k_drw1); refine cp_draw (by kernel_rfl) (by kernel_rfl) ?_)
        | ((with_reducible apply CP.k_reg); refine cp_regG fun Q' hQ' => ?_)
          | (with_reducible apply CP.k_reg1; refine cp_region ?_)
          | ((with_reducible apply CP.k_cond); first | refine cp_condT rfl ?_ | refine cp_condF rfl ?_ | refine cp_cond rfl (fun hc => ?_) (fun hc => ?_))
          | refine CP.go ?_
          | (simp only [List.append_eq, List.cons_append, List.nil_append]))
      · (refine RetQ.B [] ?_; (try dsimp only [resV, List.getD_cons_succ, List.getD_cons_zero]); ((have h : eqEs a b = false := by (cases h9 : eqEs a b with | false => rfl | true => (rw [eqEs_iff] at h9; subst h9; simp [eqE] at *))); exact ⟨by rw [h], rfl⟩))
      · simp only [hw]
        refine ⟨a.length - (k + 1), ⟨tm 27 [(0, es none none a), (1, es none none b), (4, B false), (5, I (k + 1 : Nat))], []⟩, by omega, (by simp only [tm, List.foldl_cons, List.foldl_nil, List.replicate_succ, List.replicate_zero, List.set_cons_succ, List.set_cons_zero, Nat.reduceAdd]; (refine ⟨?_, ?_⟩ <;> (try dsimp only) <;> (repeat' (first | exact Wk.nil | exact WkB.nil | apply Wk.same | apply Wk.de | apply Wk.nl | apply WkB.same | apply WkB.drop)))), k + 1, by omega, rfl, take_ext he hlt (by omega) ?_, rfl⟩
        rename_i hc
        exact eqE_iff.1 (by simpa using hc)
      · exfalso; simp at *; omega
    · have hk' : k = a.length := by omega
      have hab : a = b := by
        rw [hk', List.take_of_length_le (Nat.le_refl _), List.take_of_length_le (by omega)] at he; exact he
      have h9 : eqEs a b = true := eqEs_iff.2 hab
      repeat' (first
        | ((first
        | ((with_reducible apply AP.k_any); first
                 | refine AP.S ?_
                 | refine AP.E ?_
                 | (refine AP.V (fun c hnil => ?_); simp only [nz])
          )
        
        | ((with_reducible apply AQ.k_any); first
                        | refine AQ.S ?_
                        | refine AQ.E ?_
          )
        )
          <;> (try simp only [nx, Nat.reduceAdd, Nat.reduceSub, BEq.rfl]))
        | ((with_reducible apply AP.k_nil); first
            | (refine AP.nil (hQ' _ ?_); clear hQ' Q')
            | refine AP.nil ?_)
        | ((with_reducible apply AQ.k_nil); first | (refine AQ.nil (hQ' _ ?_); clear hQ' Q') | refine AQ.nil ?_)
        | ((with_reducible apply CP.k_drw); refine cp_drw (by kernel_rfl) (by kernel_rfl) fun Q' hQ' => ?_)
        | ((with_reducible apply CP.k_drw1); refine cp_draw (by kernel_rfl) (by kernel_rfl) ?_)
        | ((with_reducible apply CP.k_reg); refine cp_regG fun Q' hQ' => ?_)
          | (with_reducible apply CP.k_reg1; refine cp_region ?_)
          | ((with_reducible apply CP.k_cond); first | refine cp_condT rfl ?_ | refine cp_condF rfl ?_ | refine cp_cond rfl (fun hc => ?_) (fun hc => ?_))
          | refine CP.go ?_
          | (simp only [List.append_eq, List.cons_append, List.nil_append]))
      all_goals first
        | (exfalso; simp at *; omega)
        | (refine RetQ.B [] ?_; (try dsimp only [resV, List.getD_cons_succ, List.getD_cons_zero]); (exact ⟨by rw [h9], rfl⟩))
end Go.Proofs.Ytkdbedbefojieaa

namespace Go.Proofs.Ytkdbedbefojieaa
set_option linter.unusedVariables false
set_option linter.unusedSimpArgs false
set_option maxHeartbeats 8000000
open Go.RowKit
set_option maxRecDepth 100000
theorem own_ac (c : Config) (ha : c.members.length ≤ 100000000) :
    AC Try.prog 36 [.ag (eC none c)] [] (fun v bs' => v = .ag (eC (some tM) c) ∧ bs' = []) := by
  refine AC.N Try.func36 Try.ntmps36 ?_
  intro X
  simp only [nx, Nat.reduceAdd, Nat.reduceSub, BEq.rfl]
  repeat' (first
    | ((first
    | ((with_reducible apply AP.k_any); first
             | refine AP.S ?_
      )
    
    )
      <;> (try simp only [nx, Nat.reduceAdd, Nat.reduceSub, BEq.rfl]))
    | ((with_reducible apply AP.k_nil); first
        | (refine AP.nil (hQ' _ ?_); clear hQ' Q')
        | refine AP.nil ?_)
    | ((with_reducible apply CP.k_reg); refine cp_regG fun Q' hQ' => ?_)
      | (with_reducible apply CP.k_reg1; refine cp_region ?_)
      | ((with_reducible apply CP.k_cond); first | refine cp_condT rfl ?_ | refine cp_condF rfl ?_ | refine cp_cond rfl (fun hc => ?_) (fun hc => ?_))
      | refine CP.go ?_
      | (simp only [List.append_eq, List.cons_append, List.nil_append]))
  refine cp_drawA [[0, 1, 2, 3, 4, 5, 6], [0, 2, 1, 3, 4, 5, 6], [0, 2, 3, 1, 4, 5, 6], [0, 2, 3, 4, 1, 5, 6], [2, 0, 1, 3, 4, 5, 6], [2, 0, 3, 1, 4, 5, 6], [2, 0, 3, 4, 1, 5, 6], [2, 3, 0, 1, 4, 5, 6], [2, 3, 0, 4, 1, 5, 6], [2, 3, 4, 0, 1, 5, 6]] (by kernel_rfl) (by kernel_rfl) ?_
  simp only [AllP, List.filterMap_cons, List.filterMap_nil, List.getElem?_toArray, List.getElem?_cons_succ, List.getElem?_cons_zero, and_true]
  repeat' apply And.intro
  all_goals
    repeat' (first
      | ((first
      | ((with_reducible apply AP.k_any); first
               | refine AP.S ?_
        )
      | ((with_reducible apply AP.k_any); refine AP.C (mclone_ac c.members ha) ?_)
      )
        <;> (try simp only [nx, Nat.reduceAdd, Nat.reduceSub, BEq.rfl]))
      | ((with_reducible apply AP.k_nil); first
          | (refine AP.nil (hQ' _ ?_); clear hQ' Q')
          | refine AP.nil ?_)
      | ((with_reducible apply CP.k_reg); refine cp_regG fun Q' hQ' => ?_)
        | (with_reducible apply CP.k_reg1; refine cp_region ?_)
        | ((with_reducible apply CP.k_cond); first | refine cp_condT rfl ?_ | refine cp_condF rfl ?_ | refine cp_cond rfl (fun hc => ?_) (fun hc => ?_))
        | refine CP.go ?_
        | (simp only [List.append_eq, List.cons_append, List.nil_append]))
    (refine RetQ.B [] ?_; (try dsimp only [resV, List.getD_cons_succ, List.getD_cons_zero]); (exact ⟨by simp, rfl⟩))
theorem sameBook_ac (a b : Book) (ha : a.cfg.members.length ≤ 1000000000) :
    AC Try.prog 14 [.ag (eK none a), .ag (eK none b)] [] (fun v bs' => v = B (eqK a b) ∧ bs' = []) := by
  refine AC.N Try.func14 Try.ntmps14 ?_
  intro X
  simp only [nx, Nat.reduceAdd, Nat.reduceSub, BEq.rfl]
  repeat' (first
    | ((first
    | ((with_reducible apply AP.k_any); first
             | refine AP.S ?_
             | (refine AP.Y ?_; dsimp only) | refine AP.G (fun hg => ?_) (fun hg => ?_)
      )
    | ((with_reducible apply AP.k_any); refine AP.CQ (sameConfig_ac a.cfg b.cfg ha) ?_)
    
    )
      <;> (try simp only [nx, Nat.reduceAdd, Nat.reduceSub, BEq.rfl]))
    | ((with_reducible apply AP.k_nil); first
        | (refine AP.nil (hQ' _ ?_); clear hQ' Q')
        | refine AP.nil ?_)
    | ((with_reducible apply CP.k_reg); refine cp_regG fun Q' hQ' => ?_)
      | (with_reducible apply CP.k_reg1; refine cp_region ?_)
      | ((with_reducible apply CP.k_cond); first | refine cp_condT rfl ?_ | refine cp_condF rfl ?_ | refine cp_cond rfl (fun hc => ?_) (fun hc => ?_))
      | refine CP.go ?_
      | (simp only [List.append_eq, List.cons_append, List.nil_append]))
  all_goals (refine RetQ.B [] ?_; (try dsimp only [resV, List.getD_cons_succ, List.getD_cons_zero]); (exact ⟨by simp_all [eqK], rfl⟩))
theorem sameLife_ac (a b : Life) (ha : a.book.cfg.members.length ≤ 1000000000) (hl : a.log.length ≤ 1000000000) (hb : ∀ x ∈ a.log, x.body.length ≤ 1000000000) :
    AC Try.prog 21 [.ag (eL none none none a), .ag (eL none none none b)] [] (fun v bs' => v = B (eqLf a b) ∧ bs' = []) := by
  refine AC.N Try.func21 Try.ntmps21 ?_
  intro X
  simp only [nx, Nat.reduceAdd, Nat.reduceSub, BEq.rfl]
  repeat' (first
    | ((first
    | ((with_reducible apply AP.k_any); first
             | refine AP.S ?_
             | (refine AP.Y ?_; dsimp only) | refine AP.G (fun hg => ?_) (fun hg => ?_)
      )
    | ((with_reducible apply AP.k_any); refine AP.CQ (sameBook_ac a.book b.book ha) ?_)
    | ((with_reducible apply AP.k_any); refine AP.CQ (sameEntries_ac a.log b.log hl hb) ?_)
    
    )
      <;> (try simp only [nx, Nat.reduceAdd, Nat.reduceSub, BEq.rfl]))
    | ((with_reducible apply AP.k_nil); first
        | (refine AP.nil (hQ' _ ?_); clear hQ' Q')
        | refine AP.nil ?_)
    | ((with_reducible apply CP.k_reg); refine cp_regG fun Q' hQ' => ?_)
      | (with_reducible apply CP.k_reg1; refine cp_region ?_)
      | ((with_reducible apply CP.k_cond); first | refine cp_condT rfl ?_ | refine cp_condF rfl ?_ | refine cp_cond rfl (fun hc => ?_) (fun hc => ?_))
      | refine CP.go ?_
      | (simp only [List.append_eq, List.cons_append, List.nil_append]))
  all_goals (refine RetQ.B [] ?_; (try dsimp only [resV, List.getD_cons_succ, List.getD_cons_zero]); (exact ⟨by simp_all [eqLf], rfl⟩))
end Go.Proofs.Ytkdbedbefojieaa

namespace Go.Proofs.Ytkdbedbefojieaa
set_option linter.unusedVariables false
set_option linter.unusedSimpArgs false
set_option maxHeartbeats 8000000
open Go.RowKit
set_option maxRecDepth 100000
def eqRec (a b : Record) : Bool := a.kind == b.kind && eqK a.book b.book && a.drop == b.drop && eqE a.entry b.entry
theorem eqRec_iff {a b : Record} : eqRec a b = true ↔ a = b := by
  cases a; cases b; simp [eqRec, eqK_iff, eqE_iff, and_assoc]
theorem u8_beq (a b : UInt8) : ((a.toNat : Int) == (b.toNat : Int)) = (a == b) := by
  rw [Bool.eq_iff_iff]; simp [← UInt8.toNat_inj]; omega
theorem u8_one (x : UInt8) : ((x.toNat : Int) = 1) ↔ x = 1 := by rw [← UInt8.toNat_inj]; simp; omega
theorem u8_two (x : UInt8) : ((x.toNat : Int) = 2) ↔ x = 2 := by rw [← UInt8.toNat_inj]; simp; omega
theorem u8_three (x : UInt8) : ((x.toNat : Int) = 3) ↔ x = 3 := by rw [← UInt8.toNat_inj]; simp; omega
theorem u8_four (x : UInt8) : ((x.toNat : Int) = 4) ↔ x = 4 := by rw [← UInt8.toNat_inj]; simp; omega
theorem dsame_ac (a b : Record) (ha : a.book.cfg.members.length ≤ 1000000000) (hb : a.entry.body.length ≤ 1000000000) : AC Try.prog 34 [.ag (eR a), .ag (eR b)] [] (fun v bs => v = B (eqRec a b) ∧ bs = []) := by
  refine AC.N Try.func34 Try.ntmps34 ?_
  intro X
  simp only [nx, Nat.reduceAdd, Nat.reduceSub, BEq.rfl]
  repeat' (first
    | ((first
    | ((with_reducible apply AP.k_any); first
             | refine AP.S ?_
             | (refine AP.Y ?_; dsimp only) | refine AP.G (fun hg => ?_) (fun hg => ?_)
      )
    | ((with_reducible apply AP.k_any); refine AP.C (sameBook_ac a.book b.book ha) ?_)
    | ((with_reducible apply AP.k_any); refine AP.C (sameEntry_ac a.entry b.entry hb) ?_)
    )
      <;> (try simp only [nx, Nat.reduceAdd, Nat.reduceSub, BEq.rfl]))
    | ((with_reducible apply AP.k_nil); first
        | (refine AP.nil (hQ' _ ?_); clear hQ' Q')
        | refine AP.nil ?_)
    | ((with_reducible apply CP.k_reg); refine cp_regG fun Q' hQ' => ?_)
      | (with_reducible apply CP.k_reg1; refine cp_region ?_)
      | ((with_reducible apply CP.k_cond); first | refine cp_condT rfl ?_ | refine cp_condF rfl ?_ | refine cp_cond rfl (fun hc => ?_) (fun hc => ?_))
      | refine CP.go ?_
      | (simp only [List.append_eq, List.cons_append, List.nil_append]))
  all_goals (refine RetQ.B [] ?_; (try dsimp only [resV, List.getD_cons_succ, List.getD_cons_zero]); ((refine ⟨?_, rfl⟩; simp only [u8_beq] at *; simp_all [eqRec])))
def recForm (r : Record) : List UInt8 :=
  [r.kind] ++ (if r.kind = 1 then configF r.book.cfg ++ intS r.book.since ++ flagS r.book.whole ++ intS r.book.upto ++ flagS r.drop else if r.kind = 2 then entryF r.entry else [])
theorem dform_ac (r : Record) (hl : r.book.cfg.members.length ≤ 1000000) (hb : r.entry.body.length ≤ 10000000) : AC Try.prog 31 [.ag (eR r)] [] (fun v bs' => v = bs (some tU) (recForm r) ∧ bs' = []) := by
  have h1 := (dconfig_ac r.book.cfg hl).ro (r2 := bs none (configF r.book.cfg)) (by simp only [AV.ro, ro_B])
  have h2 := (dflag_ac r.book.whole).ro (r2 := bs none (flagS r.book.whole)) (by simp only [AV.ro, ro_B])
  have h3 := (dflag_ac r.drop).ro (r2 := bs none (flagS r.drop)) (by simp only [AV.ro, ro_B])
  have h4 := (dentry_ac r.entry hb).ro (r2 := bs none (entryF r.entry)) (by simp only [AV.ro, ro_B])
  have l1 := configF_length r.book.cfg
  have l2 : (entryF r.entry).length = 36 + r.entry.body.length := by simp [entryF, intS_length, restF_length]; omega
  have l3 := intS_length r.book.since
  have l4 := intS_length r.book.upto
  have l5 := flagS_length r.book.whole
  have l6 := flagS_length r.drop
  refine AC.N Try.func31 Try.ntmps31 ?_
  intro X
  simp only [nx, Nat.reduceAdd, Nat.reduceSub, BEq.rfl]
  repeat' (first
    | ((first
    | ((with_reducible apply AP.k_any); first
             | refine AP.S ?_
             | (refine AP.V (fun c hnil => ?_); simp only [nz])
      )
    | ((with_reducible apply AP.k_any); refine AP.C (h1) ?_)
    | ((with_reducible apply AP.k_any); refine AP.C (dint_ac r.book.since) ?_)
    | ((with_reducible apply AP.k_any); refine AP.C (h2) ?_)
    | ((with_reducible apply AP.k_any); refine AP.C (dint_ac r.book.upto) ?_)
    | ((with_reducible apply AP.k_any); refine AP.C (h3) ?_)
    | ((with_reducible apply AP.k_any); refine AP.C (h4) ?_)
    )
      <;> (try simp only [nx, Nat.reduceAdd, Nat.reduceSub, BEq.rfl]))
    | ((with_reducible apply AP.k_nil); first
        | (refine AP.nil (hQ' _ ?_); clear hQ' Q')
        | refine AP.nil ?_)
    | ((with_reducible apply CP.k_reg); refine cp_regG fun Q' hQ' => ?_)
      | (with_reducible apply CP.k_reg1; refine cp_region ?_)
      | ((with_reducible apply CP.k_cond); first | refine cp_condT rfl ?_ | refine cp_condF rfl ?_ | refine cp_cond rfl (fun hc => ?_) (fun hc => ?_))
      | refine CP.go ?_
      | (simp only [List.append_eq, List.cons_append, List.nil_append]))
  · have hk : r.kind = 1 := by simpa [u8_one] using hc
    (refine RetQ.B [] ?_; (try dsimp only [resV, List.getD_cons_succ, List.getD_cons_zero]); (exact ⟨by simp [recForm, hk], rfl⟩))
  · have hk : r.kind = 2 := by simpa [u8_two] using hc
    (refine RetQ.B [] ?_; (try dsimp only [resV, List.getD_cons_succ, List.getD_cons_zero]); (exact ⟨by simp [recForm, hk], rfl⟩))
  · rename_i hc1
    have hk : ¬ r.kind = 2 := by simpa [u8_two] using hc
    have hk1 : ¬ r.kind = 1 := by simpa [u8_one] using hc1
    (refine RetQ.B [] ?_; (try dsimp only [resV, List.getD_cons_succ, List.getD_cons_zero]); (exact ⟨by simp [recForm, hk, hk1], rfl⟩))
theorem noE_iff (r : Record) : noE r = true ↔ r.entry = ent0 := by
  obtain ⟨k, b, d, ⟨e1, e2, e3, e4, e5⟩⟩ := r
  simp [noE, ent0, and_assoc]
theorem noB_iff (r : Record) : noB r = true ↔ r.book = book0 ∧ r.drop = false := by
  obtain ⟨k, ⟨⟨e, l⟩, s, w, u⟩, d, x⟩ := r
  cases w <;> cases d <;> simp [noB, book0, and_assoc]
theorem eqRec_1 (r : Record) : eqRec r ⟨r.kind, r.book, r.drop, ent0⟩ = noE r := by
  rw [Bool.eq_iff_iff, eqRec_iff, noE_iff]
  obtain ⟨k, b, d, e⟩ := r
  simp
theorem eqRec_2 (r : Record) : eqRec r ⟨r.kind, book0, false, r.entry⟩ = noB r := by
  rw [Bool.eq_iff_iff, eqRec_iff, noB_iff]
  obtain ⟨k, b, d, e⟩ := r
  simp
theorem eqRec_3 (r : Record) : eqRec r ⟨r.kind, book0, false, ent0⟩ = (noB r && noE r) := by
  rw [Bool.eq_iff_iff, eqRec_iff, Bool.and_eq_true, noB_iff, noE_iff]
  obtain ⟨k, b, d, e⟩ := r
  simp [and_assoc]
theorem dmay_ac (r : Record) (hl : r.book.cfg.members.length ≤ 1000000) (hb : r.entry.body.length ≤ 10000000) : AC Try.prog 29 [.ag (eR r)] [] (fun v bs' => v = B (mayR r) ∧ bs' = []) := by
  have hl9 : r.book.cfg.members.length ≤ 1000000000 := by omega
  have hl8 : r.book.cfg.members.length ≤ 100000000 := by omega
  have hb9 : r.entry.body.length ≤ 1000000000 := by omega
  have g1 := dsame_ac r ⟨r.kind, r.book, r.drop, ent0⟩ hl9 hb9
  have g2 := dsame_ac r ⟨r.kind, book0, false, r.entry⟩ hl9 hb9
  have g3 := dsame_ac r ⟨r.kind, book0, false, ent0⟩ hl9 hb9
  rw [eqRec_1] at g1
  rw [eqRec_2] at g2
  rw [eqRec_3] at g3
  refine AC.N Try.func29 Try.ntmps29 ?_
  intro X
  simp only [nx, Nat.reduceAdd, Nat.reduceSub, BEq.rfl]
  repeat' (first
    | ((first
    | ((with_reducible apply AP.k_any); first
             | refine AP.S ?_
             | (refine AP.Y ?_; dsimp only) | refine AP.G (fun hg => ?_) (fun hg => ?_)
      )
    | ((with_reducible apply AP.k_any); refine AP.C (g2) ?_)
    | ((with_reducible apply AP.k_any); refine AP.C (g3) ?_)
    | ((with_reducible apply AP.k_any); refine AP.C (dmayEntry_ac r.entry) ?_)
    )
      <;> (try simp only [nx, Nat.reduceAdd, Nat.reduceSub, BEq.rfl]))
    | ((with_reducible apply AP.k_nil); first
        | (refine AP.nil (hQ' _ ?_); clear hQ' Q')
        | refine AP.nil ?_)
    | ((with_reducible apply CP.k_reg); refine cp_regG fun Q' hQ' => ?_)
      | (with_reducible apply CP.k_reg1; refine cp_region ?_)
      | ((with_reducible apply CP.k_cond); first | refine cp_condT rfl ?_ | refine cp_condF rfl ?_ | refine cp_cond rfl (fun hc => ?_) (fun hc => ?_))
      | refine CP.go ?_
      | (simp only [List.append_eq, List.cons_append, List.nil_append]))
  · have hk : (r.kind.toNat : Int) = 1 := by simpa using hc
    refine cp_drawI (fun zs zb => ⟨setT zs.t [(12, cond (zb.getD 0 false) (.bp 0 1 1) (.tu [])), (13, cond (zb.getD 1 false) (.ag (eK none r.book)) (.tu [])), (14, cond (zb.getD 2 false) (.bp 0 1 6) (.tu [])), (15, cond (zb.getD 3 false) (B r.drop) (.tu [])), (16, cond (zb.getD 4 false) (.bp 1 1 1) (.tu [])), (17, cond (zb.getD 6 false) (.bp 1 1 6) (.tu []))], (zs.b.set 1 (cond (zb.getD 7 false) (⟨1, .c 43 [U r.kind, I r.book.cfg.epoch, ms none r.book.cfg.members, I r.book.since, B r.book.whole, I r.book.upto, B r.drop, I 0, I 0, I 0, I 0, .sc (.slice none 0 0)]⟩) (cond (zb.getD 5 false) (⟨1, .c 43 [U r.kind, I r.book.cfg.epoch, ms none r.book.cfg.members, I r.book.since, B r.book.whole, I r.book.upto, B false, I 0, I 0, I 0, I 0, .sc (.slice none 0 0)]⟩) (zs.b.getD 1 ⟨0, .x⟩))))⟩) (by kernel_rfl) (by kernel_rfl) (by kernel_rfl) ?_ ?_
    rotate_left
    simp only [cond_true, cond_false, setT, List.set_cons_succ, List.set_cons_zero, List.getD_cons_succ, List.getD_cons_zero, List.set_cons_succ, List.length_cons, List.length_nil, List.replicate_succ, List.replicate_zero, Nat.reduceAdd]
    rotate_left
    · intro b hb' hcl
      obtain ⟨l0, b0, rfl, hb0⟩ := len_cons hb'
      obtain ⟨l1, b1, rfl, hb1⟩ := len_cons hb0
      obtain ⟨l2, b2, rfl, hb2⟩ := len_cons hb1
      obtain ⟨l3, b3, rfl, hb3⟩ := len_cons hb2
      obtain ⟨l4, b4, rfl, hb4⟩ := len_cons hb3
      obtain ⟨l5, b5, rfl, hb5⟩ := len_cons hb4
      obtain ⟨l6, b6, rfl, hb6⟩ := len_cons hb5
      obtain ⟨l7, b7, rfl, hb7⟩ := len_cons hb6
      obtain rfl := List.length_eq_zero_iff.1 hb7
      clear hb' hb0 hb1 hb2 hb3 hb4 hb5 hb6 hb7
      · simp only [closedB, depsOk, Region.binds, List.toList_toArray, List.all_cons, List.all_nil, List.getD_cons_succ, List.getD_cons_zero, Bool.not_true, Bool.not_false, Bool.true_or, Bool.false_or, Bool.and_true, Bool.true_and, Bool.or_true, Bool.and_false, Bool.or_false, Bool.false_and, Bool.and_eq_true, Bool.or_eq_true, Bool.not_eq_true'] at hcl
        simp only [StepsP]
        refine ⟨?_, ?_, ?_, ?_, ?_, ?_, ?_, ?_, trivial⟩
        · intro h1 h2
          simp [depsOk, Region.binds] at h1 h2
          subst h1
          (repeat (obtain ⟨rfl, h2⟩ := h2))
          (try subst h2)
          clear hcl
          simp only [cond_true, cond_false, setT, List.set_cons_succ, List.set_cons_zero, List.getD_cons_succ, List.getD_cons_zero, List.set_cons_succ]
          (with_reducible apply AP.k_any); first | (refine AP.sm false rfl ?_ ?_; focus ((repeat' (with_reducible apply And.intro)) <;> (first | exact True.intro | exact rfl | omega | (simp; omega) | (simp; done) | assumption | exact .inl rfl | (refine .inr ?_; simp; try omega)))) | fail "no step"
          all_goals (try simp only [nx, Nat.reduceAdd, Nat.reduceSub, BEq.rfl])
          refine AP.nil ?_
          exact ⟨rfl, rfl⟩
        · intro h1 h2
          simp [depsOk, Region.binds] at h1 h2
          subst h1
          (repeat (obtain ⟨rfl, h2⟩ := h2))
          (try subst h2)
          (first | (obtain rfl : l5 = false := by grind only) | skip)
          (first | (obtain rfl : l7 = false := by grind only) | skip)
          clear hcl
          simp only [cond_true, cond_false, setT, List.set_cons_succ, List.set_cons_zero, List.getD_cons_succ, List.getD_cons_zero, List.set_cons_succ]
          (with_reducible apply AP.k_any); first | (refine AP.sm false rfl ?_ ?_; focus ((repeat' (with_reducible apply And.intro)) <;> (first | exact True.intro | exact rfl | omega | (simp; omega) | (simp; done) | assumption | exact .inl rfl | (refine .inr ?_; simp; try omega)))) | (refine AP.el rfl ?_ (by (first | (refine ⟨?_, ?_⟩; assumption; rfl) | exact ⟨mapAt (by (first | omega | (simp; omega) | (simp; done) | assumption)), rfl⟩ | exact ⟨rfl, rfl⟩)) ?_; focus ((repeat' (with_reducible apply And.intro)) <;> (first | exact True.intro | exact rfl | omega | (simp; omega) | (simp; done) | assumption | exact .inl rfl | (refine .inr ?_; simp; try omega)))) | fail "no step"
          all_goals (try simp only [nx, Nat.reduceAdd, Nat.reduceSub, BEq.rfl])
          refine AP.nil ?_
          exact ⟨rfl, rfl⟩
        · intro h1 h2
          simp [depsOk, Region.binds] at h1 h2
          subst h1
          (repeat (obtain ⟨rfl, h2⟩ := h2))
          (try subst h2)
          clear hcl
          simp only [cond_true, cond_false, setT, List.set_cons_succ, List.set_cons_zero, List.getD_cons_succ, List.getD_cons_zero, List.set_cons_succ]
          (with_reducible apply AP.k_any); first | (refine AP.sm false rfl ?_ ?_; focus ((repeat' (with_reducible apply And.intro)) <;> (first | exact True.intro | exact rfl | omega | (simp; omega) | (simp; done) | assumption | exact .inl rfl | (refine .inr ?_; simp; try omega)))) | fail "no step"
          all_goals (try simp only [nx, Nat.reduceAdd, Nat.reduceSub, BEq.rfl])
          refine AP.nil ?_
          exact ⟨rfl, rfl⟩
        · intro h1 h2
          simp [depsOk, Region.binds] at h1 h2
          subst h1
          (repeat (obtain ⟨rfl, h2⟩ := h2))
          (try subst h2)
          (first | (obtain rfl : l7 = false := by grind only) | skip)
          clear hcl
          simp only [cond_true, cond_false, setT, List.set_cons_succ, List.set_cons_zero, List.getD_cons_succ, List.getD_cons_zero, List.set_cons_succ]
          (with_reducible apply AP.k_any); first | (refine AP.sm false rfl ?_ ?_; focus ((repeat' (with_reducible apply And.intro)) <;> (first | exact True.intro | exact rfl | omega | (simp; omega) | (simp; done) | assumption | exact .inl rfl | (refine .inr ?_; simp; try omega)))) | (refine AP.el rfl ?_ (by (first | (refine ⟨?_, ?_⟩; assumption; rfl) | exact ⟨mapAt (by (first | omega | (simp; omega) | (simp; done) | assumption)), rfl⟩ | exact ⟨rfl, rfl⟩)) ?_; focus ((repeat' (with_reducible apply And.intro)) <;> (first | exact True.intro | exact rfl | omega | (simp; omega) | (simp; done) | assumption | exact .inl rfl | (refine .inr ?_; simp; try omega)))) | fail "no step"
          all_goals (try simp only [nx, Nat.reduceAdd, Nat.reduceSub, BEq.rfl])
          refine AP.nil ?_
          exact ⟨rfl, rfl⟩
        · intro h1 h2
          simp [depsOk, Region.binds] at h1 h2
          subst h1
          (repeat (obtain ⟨rfl, h2⟩ := h2))
          (try subst h2)
          clear hcl
          simp only [cond_true, cond_false, setT, List.set_cons_succ, List.set_cons_zero, List.getD_cons_succ, List.getD_cons_zero, List.set_cons_succ]
          (with_reducible apply AP.k_any); first | (refine AP.sm false rfl ?_ ?_; focus ((repeat' (with_reducible apply And.intro)) <;> (first | exact True.intro | exact rfl | omega | (simp; omega) | (simp; done) | assumption | exact .inl rfl | (refine .inr ?_; simp; try omega)))) | fail "no step"
          all_goals (try simp only [nx, Nat.reduceAdd, Nat.reduceSub, BEq.rfl])
          refine AP.nil ?_
          exact ⟨rfl, rfl⟩
        · intro h1 h2
          simp [depsOk, Region.binds] at h1 h2
          subst h1
          (repeat (obtain ⟨rfl, h2⟩ := h2))
          (try subst h2)
          (first | (obtain rfl : l7 = false := by grind only) | skip)
          clear hcl
          simp only [cond_true, cond_false, setT, List.set_cons_succ, List.set_cons_zero, List.getD_cons_succ, List.getD_cons_zero, List.set_cons_succ]
          (with_reducible apply AP.k_any); first | (refine AP.sm false rfl ?_ ?_; focus ((repeat' (with_reducible apply And.intro)) <;> (first | exact True.intro | exact rfl | omega | (simp; omega) | (simp; done) | assumption | exact .inl rfl | (refine .inr ?_; simp; try omega)))) | refine ap_storeE rfl rfl rfl rfl rfl rfl rfl rfl (by (first | (refine ⟨?_, ?_⟩; assumption; rfl) | exact ⟨mapAt (by (first | omega | (simp; omega) | (simp; done) | assumption)), rfl⟩ | exact ⟨rfl, rfl⟩)) (by exact rfl) ?_ | fail "no step"
          all_goals (try simp only [nx, Nat.reduceAdd, Nat.reduceSub, BEq.rfl])
          refine AP.nil ?_
          exact ⟨rfl, rfl⟩
        · intro h1 h2
          simp [depsOk, Region.binds] at h1 h2
          subst h1
          (repeat (obtain ⟨rfl, h2⟩ := h2))
          (try subst h2)
          clear hcl
          simp only [cond_true, cond_false, setT, List.set_cons_succ, List.set_cons_zero, List.getD_cons_succ, List.getD_cons_zero, List.set_cons_succ]
          (with_reducible apply AP.k_any); first | (refine AP.sm false rfl ?_ ?_; focus ((repeat' (with_reducible apply And.intro)) <;> (first | exact True.intro | exact rfl | omega | (simp; omega) | (simp; done) | assumption | exact .inl rfl | (refine .inr ?_; simp; try omega)))) | fail "no step"
          all_goals (try simp only [nx, Nat.reduceAdd, Nat.reduceSub, BEq.rfl])
          refine AP.nil ?_
          exact ⟨rfl, rfl⟩
        · intro h1 h2
          simp [depsOk, Region.binds] at h1 h2
          subst h1
          (repeat (obtain ⟨rfl, h2⟩ := h2))
          (try subst h2)
          (first | (obtain rfl : l5 = true := by grind only) | skip)
          clear hcl
          simp only [cond_true, cond_false, setT, List.set_cons_succ, List.set_cons_zero, List.getD_cons_succ, List.getD_cons_zero, List.set_cons_succ]
          (with_reducible apply AP.k_any); first | (refine AP.sm false rfl ?_ ?_; focus ((repeat' (with_reducible apply And.intro)) <;> (first | exact True.intro | exact rfl | omega | (simp; omega) | (simp; done) | assumption | exact .inl rfl | (refine .inr ?_; simp; try omega)))) | refine ap_storeE rfl rfl rfl rfl rfl rfl rfl rfl (by (first | (refine ⟨?_, ?_⟩; assumption; rfl) | exact ⟨mapAt (by (first | omega | (simp; omega) | (simp; done) | assumption)), rfl⟩ | exact ⟨rfl, rfl⟩)) (by exact rfl) ?_ | fail "no step"
          all_goals (try simp only [nx, Nat.reduceAdd, Nat.reduceSub, BEq.rfl])
          refine AP.nil ?_
          exact ⟨rfl, rfl⟩
    repeat' (first
      | ((first
      | ((with_reducible apply AP.k_any); first
               | refine AP.S ?_
               | (refine AP.Y ?_; dsimp only) | refine AP.G (fun hg => ?_) (fun hg => ?_)
        )
      | ((with_reducible apply AP.k_any); refine AP.C (g1) ?_)
        | ((with_reducible apply AP.k_any); refine AP.C (dmayConfig_ac r.book.cfg hl8) ?_)
      )
        <;> (try simp only [nx, Nat.reduceAdd, Nat.reduceSub, BEq.rfl]))
      | ((with_reducible apply AP.k_nil); first
          | (refine AP.nil (hQ' _ ?_); clear hQ' Q')
          | refine AP.nil ?_)
      | ((with_reducible apply CP.k_reg); refine cp_regG fun Q' hQ' => ?_)
        | (with_reducible apply CP.k_reg1; refine cp_region ?_)
        | ((with_reducible apply CP.k_cond); first | refine cp_condT rfl ?_ | refine cp_condF rfl ?_ | refine cp_cond rfl (fun hc => ?_) (fun hc => ?_))
        | refine CP.go ?_
        | (simp only [List.append_eq, List.cons_append, List.nil_append]))
    all_goals (refine RetQ.B [] ?_; (try dsimp only [resV, List.getD_cons_succ, List.getD_cons_zero]); ((refine ⟨?_, rfl⟩; simp at *; simp [mayR, *]; try omega)))
  all_goals (refine RetQ.B [] ?_; (try dsimp only [resV, List.getD_cons_succ, List.getD_cons_zero]); ((refine ⟨?_, rfl⟩; simp at *; simp [mayR, *]; try omega)))
end Go.Proofs.Ytkdbedbefojieaa

namespace Go.Proofs.Ytkdbedbefojieaa
set_option linter.unusedVariables false
set_option linter.unusedSimpArgs false
set_option maxHeartbeats 8000000
open Go.RowKit
set_option maxRecDepth 100000
def putB (r : Record) : Bool × List UInt8 := addS (addS (addS (addS (putC (addS (false, []) [r.kind]) r.book.cfg) (intS r.book.since)) (flagS r.book.whole)) (intS r.book.upto)) (flagS r.drop)
def formR (r : Record) : Bool × List UInt8 :=
  if (r.kind.toNat : Int) = 1 then putB r
  else if (r.kind.toNat : Int) = 2 then putE (addS (false, []) [r.kind]) r.entry else addS (false, []) [r.kind]
theorem putC_len {st : Bool × List UInt8} {c : Config} (h : st.2.length ≤ 65536) : (putC st c).2.length ≤ 65536 := by
  have h0 : ∀ (l : List Member) (s : Bool × List UInt8), s.2.length ≤ 65536 → (l.foldl putM s).2.length ≤ 65536 := by
    intro l
    induction l with
    | nil => intro s hs; exact hs
    | cons m l ih => intro s hs; exact ih _ (putM_len hs)
  exact h0 _ _ (addS_len (addS_len h))
theorem putE_len {st : Bool × List UInt8} {e : Entry} (h : st.2.length ≤ 65536) : (putE st e).2.length ≤ 65536 := addS_len (addS_len (addS_len (addS_len (addS_len (addS_len h)))))
theorem printR_ac (r : Record) (hl : r.book.cfg.members.length ≤ 100000000) (hb : r.entry.body.length ≤ 100000000) : AC Try.prog 27 [.ag (eR r)] [] (fun v bs' => v = (if mayR r then .tu [bs none (if (formR r).1 then [] else (formR r).2), I (if (formR r).1 then 3 else 0)] else .tu [bs none [], I 2]) ∧ bs' = []) := by
  have h0 : ((false, []) : Bool × List UInt8).2.length ≤ 65536 := by simp
  have h1 := addS_len (b := [r.kind]) h0
  have g1 : (putC (addS (false, []) [r.kind]) r.book.cfg).2.length ≤ 65536 := putC_len h1
  have g2 := addS_len (b := intS r.book.since) g1
  have g3 := addS_len (b := flagS r.book.whole) g2
  have g4 := addS_len (b := intS r.book.upto) g3
  have g5 := addS_len (b := flagS r.drop) g4
  refine AC.N Try.func27 Try.ntmps27 ?_
  intro X
  simp only [nx, Nat.reduceAdd, Nat.reduceSub, BEq.rfl]
  repeat' (first
    | ((first
    | ((with_reducible apply AP.k_any); first
             | refine AP.S ?_
             | (refine AP.V (fun c hnil => ?_); simp only [nz])
      )
    | ((with_reducible apply AP.k_any); refine AP.C (mayR_ac r hl) ?_)
    )
      <;> (try simp only [nx, Nat.reduceAdd, Nat.reduceSub, BEq.rfl]))
    | ((with_reducible apply AP.k_nil); first
        | (refine AP.nil (hQ' _ ?_); clear hQ' Q')
        | refine AP.nil ?_)
    | ((with_reducible apply CP.k_reg); refine cp_regG fun Q' hQ' => ?_)
      | (with_reducible apply CP.k_reg1; refine cp_region ?_)
      | ((with_reducible apply CP.k_cond); first | refine cp_condT rfl ?_ | refine cp_condF rfl ?_ | refine cp_cond rfl (fun hc => ?_) (fun hc => ?_))
      | refine CP.go ?_
      | (simp only [List.append_eq, List.cons_append, List.nil_append]))
  · (exact RetQ.A [] (by exact ⟨(if_neg (by simpa using hc)).symm, rfl⟩))
  have hm : mayR r = true := by simpa using hc
  refine CP.gh gh_slot ?_; simp only [nx, Nat.reduceAdd, Nat.reduceSub, BEq.rfl]
  refine CP.gh gh_slot ?_; simp only [nx, Nat.reduceAdd, Nat.reduceSub, BEq.rfl]
  refine cp_drawI (fun zs zb => ⟨setT zs.t [(8, cond (zb.getD 0 false) (.bp 1 1 0) (.tu [])), (9, cond (zb.getD 1 false) (.bp 0 1 0) (.tu [])), (10, cond (zb.getD 2 false) (U r.kind) (.tu [])), (11, cond (zb.getD 3 false) (.bp 1 1 0) (.tu [])), (4, cond (zb.getD 4 false) (.bp 1 1 0) (.tu []))], ((zs.b.set 1 (cond (zb.getD 3 false) (⟨1, .c tW [B true, B (addS (false, []) [r.kind]).1, .hd 2 2]⟩) (cond (zb.getD 0 false) (⟨1, .c tW [B true, B false, .hd 2 1]⟩) (zs.b.getD 1 ⟨0, .x⟩)))).set 2 (cond (zb.getD 3 false) (⟨2, .r tU 1 ((addS (false, []) [r.kind]).2.map eB)⟩) (cond (zb.getD 0 false) (⟨1, .r tU 1 []⟩) (zs.b.getD 2 ⟨0, .x⟩))))⟩) (by kernel_rfl) (by kernel_rfl) (by kernel_rfl) ?_ ?_
  rotate_left
  simp only [cond_true, cond_false, setT, List.set_cons_succ, List.set_cons_zero, List.getD_cons_succ, List.getD_cons_zero, List.set_cons_succ, List.length_cons, List.length_nil, List.replicate_succ, List.replicate_zero, Nat.reduceAdd]
  rotate_left
  · intro b hb' hcl
    obtain ⟨l0, b0, rfl, hb0⟩ := len_cons hb'
    obtain ⟨l1, b1, rfl, hb1⟩ := len_cons hb0
    obtain ⟨l2, b2, rfl, hb2⟩ := len_cons hb1
    obtain ⟨l3, b3, rfl, hb3⟩ := len_cons hb2
    obtain ⟨l4, b4, rfl, hb4⟩ := len_cons hb3
    obtain rfl := List.length_eq_zero_iff.1 hb4
    clear hb' hb0 hb1 hb2 hb3 hb4
    · simp only [closedB, depsOk, Region.binds, List.toList_toArray, List.all_cons, List.all_nil, List.getD_cons_succ, List.getD_cons_zero, Bool.not_true, Bool.not_false, Bool.true_or, Bool.false_or, Bool.and_true, Bool.true_and, Bool.or_true, Bool.and_false, Bool.or_false, Bool.false_and, Bool.and_eq_true, Bool.or_eq_true, Bool.not_eq_true'] at hcl
      simp only [StepsP]
      refine ⟨?_, ?_, ?_, ?_, ?_, trivial⟩
      · intro h1 h2
        simp [depsOk, Region.binds] at h1 h2
        subst h1
        (repeat (obtain ⟨rfl, h2⟩ := h2))
        (try subst h2)
        (first | (obtain rfl : l3 = false := by grind only) | skip)
        clear hcl
        simp only [cond_true, cond_false, setT, List.set_cons_succ, List.set_cons_zero, List.getD_cons_succ, List.getD_cons_zero, List.set_cons_succ]
        (first
        | ((with_reducible apply AP.k_any); refine AP.CB [] 1 (wnew_ac) ?_)
        | ((with_reducible apply AP.k_any); refine AP.CB [(1, 1)] 0 (wbyte_ac (false, []) r.kind h0) ?_)
        | fail "no arm")
        all_goals (try simp only [nx, Nat.reduceAdd, Nat.reduceSub, BEq.rfl])
        refine AP.nil ?_
        exact ⟨rfl, rfl⟩
      · intro h1 h2
        simp [depsOk, Region.binds] at h1 h2
        subst h1
        (repeat (obtain ⟨rfl, h2⟩ := h2))
        (try subst h2)
        clear hcl
        simp only [cond_true, cond_false, setT, List.set_cons_succ, List.set_cons_zero, List.getD_cons_succ, List.getD_cons_zero, List.set_cons_succ]
        (with_reducible apply AP.k_any); first | (refine AP.sm false rfl ?_ ?_; focus ((repeat' (with_reducible apply And.intro)) <;> (first | exact True.intro | exact rfl | omega | (simp; omega) | (simp; done) | assumption | exact .inl rfl | (refine .inr ?_; simp; try omega)))) | fail "no step"
        all_goals (try simp only [nx, Nat.reduceAdd, Nat.reduceSub, BEq.rfl])
        refine AP.nil ?_
        exact ⟨rfl, rfl⟩
      · intro h1 h2
        simp [depsOk, Region.binds] at h1 h2
        subst h1
        (repeat (obtain ⟨rfl, h2⟩ := h2))
        (try subst h2)
        (first | (obtain rfl : l3 = false := by grind only) | skip)
        clear hcl
        simp only [cond_true, cond_false, setT, List.set_cons_succ, List.set_cons_zero, List.getD_cons_succ, List.getD_cons_zero, List.set_cons_succ]
        (with_reducible apply AP.k_any); first | (refine AP.sm false rfl ?_ ?_; focus ((repeat' (with_reducible apply And.intro)) <;> (first | exact True.intro | exact rfl | omega | (simp; omega) | (simp; done) | assumption | exact .inl rfl | (refine .inr ?_; simp; try omega)))) | (refine AP.el rfl ?_ (by (first | (refine ⟨?_, ?_⟩; assumption; rfl) | exact ⟨mapAt (by (first | omega | (simp; omega) | (simp; done) | assumption)), rfl⟩ | exact ⟨rfl, rfl⟩)) ?_; focus ((repeat' (with_reducible apply And.intro)) <;> (first | exact True.intro | exact rfl | omega | (simp; omega) | (simp; done) | assumption | exact .inl rfl | (refine .inr ?_; simp; try omega)))) | fail "no step"
        all_goals (try simp only [nx, Nat.reduceAdd, Nat.reduceSub, BEq.rfl])
        refine AP.nil ?_
        exact ⟨rfl, rfl⟩
      · intro h1 h2
        simp [depsOk, Region.binds] at h1 h2
        subst h1
        (repeat (obtain ⟨rfl, h2⟩ := h2))
        (try subst h2)
        (first | (obtain rfl : l0 = true := by grind only) | skip)
        clear hcl
        simp only [cond_true, cond_false, setT, List.set_cons_succ, List.set_cons_zero, List.getD_cons_succ, List.getD_cons_zero, List.set_cons_succ]
        (first
        | ((with_reducible apply AP.k_any); refine AP.CB [] 1 (wnew_ac) ?_)
        | ((with_reducible apply AP.k_any); refine AP.CB [(1, 1)] 0 (wbyte_ac (false, []) r.kind h0) ?_)
        | fail "no arm")
        all_goals (try simp only [nx, Nat.reduceAdd, Nat.reduceSub, BEq.rfl])
        refine AP.nil ?_
        exact ⟨rfl, rfl⟩
      · intro h1 h2
        simp [depsOk, Region.binds] at h1 h2
        subst h1
        (repeat (obtain ⟨rfl, h2⟩ := h2))
        (try subst h2)
        clear hcl
        simp only [cond_true, cond_false, setT, List.set_cons_succ, List.set_cons_zero, List.getD_cons_succ, List.getD_cons_zero, List.set_cons_succ]
        (with_reducible apply AP.k_any); first | (refine AP.sm false rfl ?_ ?_; focus ((repeat' (with_reducible apply And.intro)) <;> (first | exact True.intro | exact rfl | omega | (simp; omega) | (simp; done) | assumption | exact .inl rfl | (refine .inr ?_; simp; try omega)))) | fail "no step"
        all_goals (try simp only [nx, Nat.reduceAdd, Nat.reduceSub, BEq.rfl])
        refine AP.nil ?_
        exact ⟨rfl, rfl⟩
  repeat' (first
    | ((first
    | ((with_reducible apply AP.k_any); first
             | refine AP.S ?_
             | (refine AP.V (fun c hnil => ?_); simp only [nz])
      )
    | ((with_reducible apply AP.k_any); refine AP.CB [(1, 1)] 0 (putEntry_ac _ r.entry h1 hb) ?_)
    )
      <;> (try simp only [nx, Nat.reduceAdd, Nat.reduceSub, BEq.rfl]))
    | ((with_reducible apply AP.k_nil); first
        | (refine AP.nil (hQ' _ ?_); clear hQ' Q')
        | refine AP.nil ?_)
    | ((with_reducible apply CP.k_reg); refine cp_regG fun Q' hQ' => ?_)
      | (with_reducible apply CP.k_reg1; refine cp_region ?_)
      | ((with_reducible apply CP.k_cond); first | refine cp_condT rfl ?_ | refine cp_condF rfl ?_ | refine cp_cond rfl (fun hc => ?_) (fun hc => ?_))
      | refine CP.go ?_
      | (simp only [List.append_eq, List.cons_append, List.nil_append]))
  · refine cp_drawI (fun zs zb => ⟨setT zs.t [(16, cond (zb.getD 0 false) (.bp 1 1 0) (.tu [])), (17, cond (zb.getD 1 false) (.bp 0 1 1) (.tu [])), (18, cond (zb.getD 2 false) (.bp 0 1 1) (.tu [])), (19, cond (zb.getD 3 false) (.ag (eC none r.book.cfg)) (.tu [])), (20, cond (zb.getD 4 false) (.bp 1 1 0) (.tu [])), (21, cond (zb.getD 5 false) (.bp 0 1 1) (.tu [])), (22, cond (zb.getD 6 false) (.bp 0 1 3) (.tu [])), (23, cond (zb.getD 7 false) (I r.book.since) (.tu [])), (24, cond (zb.getD 8 false) (.bp 1 1 0) (.tu [])), (25, cond (zb.getD 9 false) (.bp 0 1 1) (.tu [])), (26, cond (zb.getD 10 false) (.bp 0 1 4) (.tu [])), (27, cond (zb.getD 11 false) (B r.book.whole) (.tu [])), (28, cond (zb.getD 12 false) (.bp 1 1 0) (.tu [])), (29, cond (zb.getD 13 false) (.bp 0 1 1) (.tu [])), (30, cond (zb.getD 14 false) (.bp 0 1 5) (.tu [])), (31, cond (zb.getD 15 false) (I r.book.upto) (.tu [])), (32, cond (zb.getD 16 false) (.bp 1 1 0) (.tu [])), (33, cond (zb.getD 17 false) (.bp 0 1 6) (.tu [])), (34, cond (zb.getD 18 false) (B r.drop) (.tu [])), (35, cond (zb.getD 19 false) (.bp 1 1 0) (.tu []))], ((zs.b.set 1 (cond (zb.getD 19 false) (⟨1, .c tW [B true, B (putB r).1, .hd 2 7]⟩) (cond (zb.getD 16 false) (⟨1, .c tW [B true, B (addS (addS (addS (putC (addS (false, []) [r.kind]) r.book.cfg) (intS r.book.since)) (flagS r.book.whole)) (intS r.book.upto)).1, .hd 2 6]⟩) (cond (zb.getD 12 false) (⟨1, .c tW [B true, B (addS (addS (putC (addS (false, []) [r.kind]) r.book.cfg) (intS r.book.since)) (flagS r.book.whole)).1, .hd 2 5]⟩) (cond (zb.getD 8 false) (⟨1, .c tW [B true, B (addS (putC (addS (false, []) [r.kind]) r.book.cfg) (intS r.book.since)).1, .hd 2 4]⟩) (cond (zb.getD 4 false) (⟨1, .c tW [B true, B ((putC (addS (false, []) [r.kind]) r.book.cfg)).1, .hd 2 3]⟩) (zs.b.getD 1 ⟨0, .x⟩))))))).set 2 (cond (zb.getD 19 false) (⟨7, .r tU 1 ((putB r).2.map eB)⟩) (cond (zb.getD 16 false) (⟨6, .r tU 1 ((addS (addS (addS (putC (addS (false, []) [r.kind]) r.book.cfg) (intS r.book.since)) (flagS r.book.whole)) (intS r.book.upto)).2.map eB)⟩) (cond (zb.getD 12 false) (⟨5, .r tU 1 ((addS (addS (putC (addS (false, []) [r.kind]) r.book.cfg) (intS r.book.since)) (flagS r.book.whole)).2.map eB)⟩) (cond (zb.getD 8 false) (⟨4, .r tU 1 ((addS (putC (addS (false, []) [r.kind]) r.book.cfg) (intS r.book.since)).2.map eB)⟩) (cond (zb.getD 4 false) (⟨3, .r tU 1 (((putC (addS (false, []) [r.kind]) r.book.cfg)).2.map eB)⟩) (zs.b.getD 2 ⟨0, .x⟩)))))))⟩) (by kernel_rfl) (by kernel_rfl) (by kernel_rfl) ?_ ?_
    rotate_left
    simp only [cond_true, cond_false, setT, List.set_cons_succ, List.set_cons_zero, List.getD_cons_succ, List.getD_cons_zero, List.set_cons_succ, List.length_cons, List.length_nil, List.replicate_succ, List.replicate_zero, Nat.reduceAdd]
    rotate_left
    · intro b hb' hcl
      obtain ⟨l0, b0, rfl, hb0⟩ := len_cons hb'
      obtain ⟨l1, b1, rfl, hb1⟩ := len_cons hb0
      obtain ⟨l2, b2, rfl, hb2⟩ := len_cons hb1
      obtain ⟨l3, b3, rfl, hb3⟩ := len_cons hb2
      obtain ⟨l4, b4, rfl, hb4⟩ := len_cons hb3
      obtain ⟨l5, b5, rfl, hb5⟩ := len_cons hb4
      obtain ⟨l6, b6, rfl, hb6⟩ := len_cons hb5
      obtain ⟨l7, b7, rfl, hb7⟩ := len_cons hb6
      obtain ⟨l8, b8, rfl, hb8⟩ := len_cons hb7
      obtain ⟨l9, b9, rfl, hb9⟩ := len_cons hb8
      obtain ⟨l10, b10, rfl, hb10⟩ := len_cons hb9
      obtain ⟨l11, b11, rfl, hb11⟩ := len_cons hb10
      obtain ⟨l12, b12, rfl, hb12⟩ := len_cons hb11
      obtain ⟨l13, b13, rfl, hb13⟩ := len_cons hb12
      obtain ⟨l14, b14, rfl, hb14⟩ := len_cons hb13
      obtain ⟨l15, b15, rfl, hb15⟩ := len_cons hb14
      obtain ⟨l16, b16, rfl, hb16⟩ := len_cons hb15
      obtain ⟨l17, b17, rfl, hb17⟩ := len_cons hb16
      obtain ⟨l18, b18, rfl, hb18⟩ := len_cons hb17
      obtain ⟨l19, b19, rfl, hb19⟩ := len_cons hb18
      obtain rfl := List.length_eq_zero_iff.1 hb19
      clear hb' hb0 hb1 hb2 hb3 hb4 hb5 hb6 hb7 hb8 hb9 hb10 hb11 hb12 hb13 hb14 hb15 hb16 hb17 hb18 hb19
      · simp only [closedB, depsOk, Region.binds, List.toList_toArray, List.all_cons, List.all_nil, List.getD_cons_succ, List.getD_cons_zero, Bool.not_true, Bool.not_false, Bool.true_or, Bool.false_or, Bool.and_true, Bool.true_and, Bool.or_true, Bool.and_false, Bool.or_false, Bool.false_and, Bool.and_eq_true, Bool.or_eq_true, Bool.not_eq_true'] at hcl
        simp only [StepsP]
        refine ⟨?_, ?_, ?_, ?_, ?_, ?_, ?_, ?_, ?_, ?_, ?_, ?_, ?_, ?_, ?_, ?_, ?_, ?_, ?_, ?_, trivial⟩
        · intro h1 h2
          simp [depsOk, Region.binds] at h1 h2
          subst h1
          (repeat (obtain ⟨rfl, h2⟩ := h2))
          (try subst h2)
          clear hcl
          simp only [cond_true, cond_false, setT, List.set_cons_succ, List.set_cons_zero, List.getD_cons_succ, List.getD_cons_zero, List.set_cons_succ]
          (with_reducible apply AP.k_any); first | (refine AP.sm false rfl ?_ ?_; focus ((repeat' (with_reducible apply And.intro)) <;> (first | exact True.intro | exact rfl | omega | (simp; omega) | (simp; done) | assumption | exact .inl rfl | (refine .inr ?_; simp; try omega)))) | fail "no step"
          all_goals (try simp only [nx, Nat.reduceAdd, Nat.reduceSub, BEq.rfl])
          refine AP.nil ?_
          exact ⟨rfl, rfl⟩
        · intro h1 h2
          simp [depsOk, Region.binds] at h1 h2
          subst h1
          (repeat (obtain ⟨rfl, h2⟩ := h2))
          (try subst h2)
          clear hcl
          simp only [cond_true, cond_false, setT, List.set_cons_succ, List.set_cons_zero, List.getD_cons_succ, List.getD_cons_zero, List.set_cons_succ]
          (with_reducible apply AP.k_any); first | (refine AP.sm false rfl ?_ ?_; focus ((repeat' (with_reducible apply And.intro)) <;> (first | exact True.intro | exact rfl | omega | (simp; omega) | (simp; done) | assumption | exact .inl rfl | (refine .inr ?_; simp; try omega)))) | fail "no step"
          all_goals (try simp only [nx, Nat.reduceAdd, Nat.reduceSub, BEq.rfl])
          refine AP.nil ?_
          exact ⟨rfl, rfl⟩
        · intro h1 h2
          simp [depsOk, Region.binds] at h1 h2
          subst h1
          (repeat (obtain ⟨rfl, h2⟩ := h2))
          (try subst h2)
          clear hcl
          simp only [cond_true, cond_false, setT, List.set_cons_succ, List.set_cons_zero, List.getD_cons_succ, List.getD_cons_zero, List.set_cons_succ]
          (with_reducible apply AP.k_any); first | (refine AP.sm false rfl ?_ ?_; focus ((repeat' (with_reducible apply And.intro)) <;> (first | exact True.intro | exact rfl | omega | (simp; omega) | (simp; done) | assumption | exact .inl rfl | (refine .inr ?_; simp; try omega)))) | fail "no step"
          all_goals (try simp only [nx, Nat.reduceAdd, Nat.reduceSub, BEq.rfl])
          refine AP.nil ?_
          exact ⟨rfl, rfl⟩
        · intro h1 h2
          simp [depsOk, Region.binds] at h1 h2
          subst h1
          (repeat (obtain ⟨rfl, h2⟩ := h2))
          (try subst h2)
          (first | (obtain rfl : l4 = false := by grind only) | skip)
          (first | (obtain rfl : l8 = false := by grind only) | skip)
          (first | (obtain rfl : l12 = false := by grind only) | skip)
          (first | (obtain rfl : l16 = false := by grind only) | skip)
          (first | (obtain rfl : l19 = false := by grind only) | skip)
          clear hcl
          simp only [cond_true, cond_false, setT, List.set_cons_succ, List.set_cons_zero, List.getD_cons_succ, List.getD_cons_zero, List.set_cons_succ]
          (with_reducible apply AP.k_any); first | (refine AP.sm false rfl ?_ ?_; focus ((repeat' (with_reducible apply And.intro)) <;> (first | exact True.intro | exact rfl | omega | (simp; omega) | (simp; done) | assumption | exact .inl rfl | (refine .inr ?_; simp; try omega)))) | (refine AP.el rfl ?_ (by (first | (refine ⟨?_, ?_⟩; assumption; rfl) | exact ⟨mapAt (by (first | omega | (simp; omega) | (simp; done) | assumption)), rfl⟩ | exact ⟨rfl, rfl⟩)) ?_; focus ((repeat' (with_reducible apply And.intro)) <;> (first | exact True.intro | exact rfl | omega | (simp; omega) | (simp; done) | assumption | exact .inl rfl | (refine .inr ?_; simp; try omega)))) | fail "no step"
          all_goals (try simp only [nx, Nat.reduceAdd, Nat.reduceSub, BEq.rfl])
          refine AP.nil ?_
          exact ⟨rfl, rfl⟩
        · intro h1 h2
          simp [depsOk, Region.binds] at h1 h2
          subst h1
          (repeat (obtain ⟨rfl, h2⟩ := h2))
          (try subst h2)
          (first | (obtain rfl : l8 = false := by grind only) | skip)
          (first | (obtain rfl : l12 = false := by grind only) | skip)
          (first | (obtain rfl : l16 = false := by grind only) | skip)
          (first | (obtain rfl : l19 = false := by grind only) | skip)
          clear hcl
          simp only [cond_true, cond_false, setT, List.set_cons_succ, List.set_cons_zero, List.getD_cons_succ, List.getD_cons_zero, List.set_cons_succ]
          (first
          | ((with_reducible apply AP.k_any); refine AP.CB [(1, 1)] 0 (putConfig_ac _ r.book.cfg h1 hl) ?_)
          | ((with_reducible apply AP.k_any); refine AP.CB [(1, 1)] 0 (wint_ac (putC (addS (false, []) [r.kind]) r.book.cfg) r.book.since g1) ?_)
          | ((with_reducible apply AP.k_any); refine AP.CB [(1, 1)] 0 (wflag_ac _ r.book.whole g2) ?_)
          | ((with_reducible apply AP.k_any); refine AP.CB [(1, 1)] 0 (wint_ac _ r.book.upto g3) ?_)
          | ((with_reducible apply AP.k_any); refine AP.CB [(1, 1)] 0 (wflag_ac _ r.drop g4) ?_)
          | fail "no arm")
          all_goals (try simp only [nx, Nat.reduceAdd, Nat.reduceSub, BEq.rfl])
          refine AP.nil ?_
          exact ⟨rfl, rfl⟩
        · intro h1 h2
          simp [depsOk, Region.binds] at h1 h2
          subst h1
          (repeat (obtain ⟨rfl, h2⟩ := h2))
          (try subst h2)
          clear hcl
          simp only [cond_true, cond_false, setT, List.set_cons_succ, List.set_cons_zero, List.getD_cons_succ, List.getD_cons_zero, List.set_cons_succ]
          (with_reducible apply AP.k_any); first | (refine AP.sm false rfl ?_ ?_; focus ((repeat' (with_reducible apply And.intro)) <;> (first | exact True.intro | exact rfl | omega | (simp; omega) | (simp; done) | assumption | exact .inl rfl | (refine .inr ?_; simp; try omega)))) | fail "no step"
          all_goals (try simp only [nx, Nat.reduceAdd, Nat.reduceSub, BEq.rfl])
          refine AP.nil ?_
          exact ⟨rfl, rfl⟩
        · intro h1 h2
          simp [depsOk, Region.binds] at h1 h2
          subst h1
          (repeat (obtain ⟨rfl, h2⟩ := h2))
          (try subst h2)
          clear hcl
          simp only [cond_true, cond_false, setT, List.set_cons_succ, List.set_cons_zero, List.getD_cons_succ, List.getD_cons_zero, List.set_cons_succ]
          (with_reducible apply AP.k_any); first | (refine AP.sm false rfl ?_ ?_; focus ((repeat' (with_reducible apply And.intro)) <;> (first | exact True.intro | exact rfl | omega | (simp; omega) | (simp; done) | assumption | exact .inl rfl | (refine .inr ?_; simp; try omega)))) | fail "no step"
          all_goals (try simp only [nx, Nat.reduceAdd, Nat.reduceSub, BEq.rfl])
          refine AP.nil ?_
          exact ⟨rfl, rfl⟩
        · intro h1 h2
          simp [depsOk, Region.binds] at h1 h2
          subst h1
          (repeat (obtain ⟨rfl, h2⟩ := h2))
          (try subst h2)
          (first | (obtain rfl : l8 = false := by grind only) | skip)
          (first | (obtain rfl : l12 = false := by grind only) | skip)
          (first | (obtain rfl : l16 = false := by grind only) | skip)
          (first | (obtain rfl : l19 = false := by grind only) | skip)
          clear hcl
          simp only [cond_true, cond_false, setT, List.set_cons_succ, List.set_cons_zero, List.getD_cons_succ, List.getD_cons_zero, List.set_cons_succ]
          (with_reducible apply AP.k_any); first | (refine AP.sm false rfl ?_ ?_; focus ((repeat' (with_reducible apply And.intro)) <;> (first | exact True.intro | exact rfl | omega | (simp; omega) | (simp; done) | assumption | exact .inl rfl | (refine .inr ?_; simp; try omega)))) | (refine AP.el rfl ?_ (by (first | (refine ⟨?_, ?_⟩; assumption; rfl) | exact ⟨mapAt (by (first | omega | (simp; omega) | (simp; done) | assumption)), rfl⟩ | exact ⟨rfl, rfl⟩)) ?_; focus ((repeat' (with_reducible apply And.intro)) <;> (first | exact True.intro | exact rfl | omega | (simp; omega) | (simp; done) | assumption | exact .inl rfl | (refine .inr ?_; simp; try omega)))) | fail "no step"
          all_goals (try simp only [nx, Nat.reduceAdd, Nat.reduceSub, BEq.rfl])
          refine AP.nil ?_
          exact ⟨rfl, rfl⟩
        · intro h1 h2
          simp [depsOk, Region.binds] at h1 h2
          subst h1
          (repeat (obtain ⟨rfl, h2⟩ := h2))
          (try subst h2)
          (first | (obtain rfl : l4 = true := by grind only) | skip)
          (first | (obtain rfl : l12 = false := by grind only) | skip)
          (first | (obtain rfl : l16 = false := by grind only) | skip)
          (first | (obtain rfl : l19 = false := by grind only) | skip)
          clear hcl
          simp only [cond_true, cond_false, setT, List.set_cons_succ, List.set_cons_zero, List.getD_cons_succ, List.getD_cons_zero, List.set_cons_succ]
          (first
          | ((with_reducible apply AP.k_any); refine AP.CB [(1, 1)] 0 (putConfig_ac _ r.book.cfg h1 hl) ?_)
          | ((with_reducible apply AP.k_any); refine AP.CB [(1, 1)] 0 (wint_ac (putC (addS (false, []) [r.kind]) r.book.cfg) r.book.since g1) ?_)
          | ((with_reducible apply AP.k_any); refine AP.CB [(1, 1)] 0 (wflag_ac _ r.book.whole g2) ?_)
          | ((with_reducible apply AP.k_any); refine AP.CB [(1, 1)] 0 (wint_ac _ r.book.upto g3) ?_)
          | ((with_reducible apply AP.k_any); refine AP.CB [(1, 1)] 0 (wflag_ac _ r.drop g4) ?_)
          | fail "no arm")
          all_goals (try simp only [nx, Nat.reduceAdd, Nat.reduceSub, BEq.rfl])
          refine AP.nil ?_
          exact ⟨rfl, rfl⟩
        · intro h1 h2
          simp [depsOk, Region.binds] at h1 h2
          subst h1
          (repeat (obtain ⟨rfl, h2⟩ := h2))
          (try subst h2)
          clear hcl
          simp only [cond_true, cond_false, setT, List.set_cons_succ, List.set_cons_zero, List.getD_cons_succ, List.getD_cons_zero, List.set_cons_succ]
          (with_reducible apply AP.k_any); first | (refine AP.sm false rfl ?_ ?_; focus ((repeat' (with_reducible apply And.intro)) <;> (first | exact True.intro | exact rfl | omega | (simp; omega) | (simp; done) | assumption | exact .inl rfl | (refine .inr ?_; simp; try omega)))) | fail "no step"
          all_goals (try simp only [nx, Nat.reduceAdd, Nat.reduceSub, BEq.rfl])
          refine AP.nil ?_
          exact ⟨rfl, rfl⟩
        · intro h1 h2
          simp [depsOk, Region.binds] at h1 h2
          subst h1
          (repeat (obtain ⟨rfl, h2⟩ := h2))
          (try subst h2)
          clear hcl
          simp only [cond_true, cond_false, setT, List.set_cons_succ, List.set_cons_zero, List.getD_cons_succ, List.getD_cons_zero, List.set_cons_succ]
          (with_reducible apply AP.k_any); first | (refine AP.sm false rfl ?_ ?_; focus ((repeat' (with_reducible apply And.intro)) <;> (first | exact True.intro | exact rfl | omega | (simp; omega) | (simp; done) | assumption | exact .inl rfl | (refine .inr ?_; simp; try omega)))) | fail "no step"
          all_goals (try simp only [nx, Nat.reduceAdd, Nat.reduceSub, BEq.rfl])
          refine AP.nil ?_
          exact ⟨rfl, rfl⟩
        · intro h1 h2
          simp [depsOk, Region.binds] at h1 h2
          subst h1
          (repeat (obtain ⟨rfl, h2⟩ := h2))
          (try subst h2)
          (first | (obtain rfl : l12 = false := by grind only) | skip)
          (first | (obtain rfl : l16 = false := by grind only) | skip)
          (first | (obtain rfl : l19 = false := by grind only) | skip)
          clear hcl
          simp only [cond_true, cond_false, setT, List.set_cons_succ, List.set_cons_zero, List.getD_cons_succ, List.getD_cons_zero, List.set_cons_succ]
          (with_reducible apply AP.k_any); first | (refine AP.sm false rfl ?_ ?_; focus ((repeat' (with_reducible apply And.intro)) <;> (first | exact True.intro | exact rfl | omega | (simp; omega) | (simp; done) | assumption | exact .inl rfl | (refine .inr ?_; simp; try omega)))) | (refine AP.el rfl ?_ (by (first | (refine ⟨?_, ?_⟩; assumption; rfl) | exact ⟨mapAt (by (first | omega | (simp; omega) | (simp; done) | assumption)), rfl⟩ | exact ⟨rfl, rfl⟩)) ?_; focus ((repeat' (with_reducible apply And.intro)) <;> (first | exact True.intro | exact rfl | omega | (simp; omega) | (simp; done) | assumption | exact .inl rfl | (refine .inr ?_; simp; try omega)))) | fail "no step"
          all_goals (try simp only [nx, Nat.reduceAdd, Nat.reduceSub, BEq.rfl])
          refine AP.nil ?_
          exact ⟨rfl, rfl⟩
        · intro h1 h2
          simp [depsOk, Region.binds] at h1 h2
          subst h1
          (repeat (obtain ⟨rfl, h2⟩ := h2))
          (try subst h2)
          (first | (obtain rfl : l4 = true := by grind only) | skip)
          (first | (obtain rfl : l8 = true := by grind only) | skip)
          (first | (obtain rfl : l16 = false := by grind only) | skip)
          (first | (obtain rfl : l19 = false := by grind only) | skip)
          clear hcl
          simp only [cond_true, cond_false, setT, List.set_cons_succ, List.set_cons_zero, List.getD_cons_succ, List.getD_cons_zero, List.set_cons_succ]
          (first
          | ((with_reducible apply AP.k_any); refine AP.CB [(1, 1)] 0 (putConfig_ac _ r.book.cfg h1 hl) ?_)
          | ((with_reducible apply AP.k_any); refine AP.CB [(1, 1)] 0 (wint_ac (putC (addS (false, []) [r.kind]) r.book.cfg) r.book.since g1) ?_)
          | ((with_reducible apply AP.k_any); refine AP.CB [(1, 1)] 0 (wflag_ac _ r.book.whole g2) ?_)
          | ((with_reducible apply AP.k_any); refine AP.CB [(1, 1)] 0 (wint_ac _ r.book.upto g3) ?_)
          | ((with_reducible apply AP.k_any); refine AP.CB [(1, 1)] 0 (wflag_ac _ r.drop g4) ?_)
          | fail "no arm")
          all_goals (try simp only [nx, Nat.reduceAdd, Nat.reduceSub, BEq.rfl])
          refine AP.nil ?_
          exact ⟨rfl, rfl⟩
        · intro h1 h2
          simp [depsOk, Region.binds] at h1 h2
          subst h1
          (repeat (obtain ⟨rfl, h2⟩ := h2))
          (try subst h2)
          clear hcl
          simp only [cond_true, cond_false, setT, List.set_cons_succ, List.set_cons_zero, List.getD_cons_succ, List.getD_cons_zero, List.set_cons_succ]
          (with_reducible apply AP.k_any); first | (refine AP.sm false rfl ?_ ?_; focus ((repeat' (with_reducible apply And.intro)) <;> (first | exact True.intro | exact rfl | omega | (simp; omega) | (simp; done) | assumption | exact .inl rfl | (refine .inr ?_; simp; try omega)))) | fail "no step"
          all_goals (try simp only [nx, Nat.reduceAdd, Nat.reduceSub, BEq.rfl])
          refine AP.nil ?_
          exact ⟨rfl, rfl⟩
        · intro h1 h2
          simp [depsOk, Region.binds] at h1 h2
          subst h1
          (repeat (obtain ⟨rfl, h2⟩ := h2))
          (try subst h2)
          clear hcl
          simp only [cond_true, cond_false, setT, List.set_cons_succ, List.set_cons_zero, List.getD_cons_succ, List.getD_cons_zero, List.set_cons_succ]
          (with_reducible apply AP.k_any); first | (refine AP.sm false rfl ?_ ?_; focus ((repeat' (with_reducible apply And.intro)) <;> (first | exact True.intro | exact rfl | omega | (simp; omega) | (simp; done) | assumption | exact .inl rfl | (refine .inr ?_; simp; try omega)))) | fail "no step"
          all_goals (try simp only [nx, Nat.reduceAdd, Nat.reduceSub, BEq.rfl])
          refine AP.nil ?_
          exact ⟨rfl, rfl⟩
        · intro h1 h2
          simp [depsOk, Region.binds] at h1 h2
          subst h1
          (repeat (obtain ⟨rfl, h2⟩ := h2))
          (try subst h2)
          (first | (obtain rfl : l16 = false := by grind only) | skip)
          (first | (obtain rfl : l19 = false := by grind only) | skip)
          clear hcl
          simp only [cond_true, cond_false, setT, List.set_cons_succ, List.set_cons_zero, List.getD_cons_succ, List.getD_cons_zero, List.set_cons_succ]
          (with_reducible apply AP.k_any); first | (refine AP.sm false rfl ?_ ?_; focus ((repeat' (with_reducible apply And.intro)) <;> (first | exact True.intro | exact rfl | omega | (simp; omega) | (simp; done) | assumption | exact .inl rfl | (refine .inr ?_; simp; try omega)))) | (refine AP.el rfl ?_ (by (first | (refine ⟨?_, ?_⟩; assumption; rfl) | exact ⟨mapAt (by (first | omega | (simp; omega) | (simp; done) | assumption)), rfl⟩ | exact ⟨rfl, rfl⟩)) ?_; focus ((repeat' (with_reducible apply And.intro)) <;> (first | exact True.intro | exact rfl | omega | (simp; omega) | (simp; done) | assumption | exact .inl rfl | (refine .inr ?_; simp; try omega)))) | fail "no step"
          all_goals (try simp only [nx, Nat.reduceAdd, Nat.reduceSub, BEq.rfl])
          refine AP.nil ?_
          exact ⟨rfl, rfl⟩
        · intro h1 h2
          simp [depsOk, Region.binds] at h1 h2
          subst h1
          (repeat (obtain ⟨rfl, h2⟩ := h2))
          (try subst h2)
          (first | (obtain rfl : l4 = true := by grind only) | skip)
          (first | (obtain rfl : l8 = true := by grind only) | skip)
          (first | (obtain rfl : l12 = true := by grind only) | skip)
          (first | (obtain rfl : l19 = false := by grind only) | skip)
          clear hcl
          simp only [cond_true, cond_false, setT, List.set_cons_succ, List.set_cons_zero, List.getD_cons_succ, List.getD_cons_zero, List.set_cons_succ]
          (first
          | ((with_reducible apply AP.k_any); refine AP.CB [(1, 1)] 0 (putConfig_ac _ r.book.cfg h1 hl) ?_)
          | ((with_reducible apply AP.k_any); refine AP.CB [(1, 1)] 0 (wint_ac (putC (addS (false, []) [r.kind]) r.book.cfg) r.book.since g1) ?_)
          | ((with_reducible apply AP.k_any); refine AP.CB [(1, 1)] 0 (wflag_ac _ r.book.whole g2) ?_)
          | ((with_reducible apply AP.k_any); refine AP.CB [(1, 1)] 0 (wint_ac _ r.book.upto g3) ?_)
          | ((with_reducible apply AP.k_any); refine AP.CB [(1, 1)] 0 (wflag_ac _ r.drop g4) ?_)
          | fail "no arm")
          all_goals (try simp only [nx, Nat.reduceAdd, Nat.reduceSub, BEq.rfl])
          refine AP.nil ?_
          exact ⟨rfl, rfl⟩
        · intro h1 h2
          simp [depsOk, Region.binds] at h1 h2
          subst h1
          (repeat (obtain ⟨rfl, h2⟩ := h2))
          (try subst h2)
          clear hcl
          simp only [cond_true, cond_false, setT, List.set_cons_succ, List.set_cons_zero, List.getD_cons_succ, List.getD_cons_zero, List.set_cons_succ]
          (with_reducible apply AP.k_any); first | (refine AP.sm false rfl ?_ ?_; focus ((repeat' (with_reducible apply And.intro)) <;> (first | exact True.intro | exact rfl | omega | (simp; omega) | (simp; done) | assumption | exact .inl rfl | (refine .inr ?_; simp; try omega)))) | fail "no step"
          all_goals (try simp only [nx, Nat.reduceAdd, Nat.reduceSub, BEq.rfl])
          refine AP.nil ?_
          exact ⟨rfl, rfl⟩
        · intro h1 h2
          simp [depsOk, Region.binds] at h1 h2
          subst h1
          (repeat (obtain ⟨rfl, h2⟩ := h2))
          (try subst h2)
          (first | (obtain rfl : l19 = false := by grind only) | skip)
          clear hcl
          simp only [cond_true, cond_false, setT, List.set_cons_succ, List.set_cons_zero, List.getD_cons_succ, List.getD_cons_zero, List.set_cons_succ]
          (with_reducible apply AP.k_any); first | (refine AP.sm false rfl ?_ ?_; focus ((repeat' (with_reducible apply And.intro)) <;> (first | exact True.intro | exact rfl | omega | (simp; omega) | (simp; done) | assumption | exact .inl rfl | (refine .inr ?_; simp; try omega)))) | (refine AP.el rfl ?_ (by (first | (refine ⟨?_, ?_⟩; assumption; rfl) | exact ⟨mapAt (by (first | omega | (simp; omega) | (simp; done) | assumption)), rfl⟩ | exact ⟨rfl, rfl⟩)) ?_; focus ((repeat' (with_reducible apply And.intro)) <;> (first | exact True.intro | exact rfl | omega | (simp; omega) | (simp; done) | assumption | exact .inl rfl | (refine .inr ?_; simp; try omega)))) | fail "no step"
          all_goals (try simp only [nx, Nat.reduceAdd, Nat.reduceSub, BEq.rfl])
          refine AP.nil ?_
          exact ⟨rfl, rfl⟩
        · intro h1 h2
          simp [depsOk, Region.binds] at h1 h2
          subst h1
          (repeat (obtain ⟨rfl, h2⟩ := h2))
          (try subst h2)
          (first | (obtain rfl : l4 = true := by grind only) | skip)
          (first | (obtain rfl : l8 = true := by grind only) | skip)
          (first | (obtain rfl : l12 = true := by grind only) | skip)
          (first | (obtain rfl : l16 = true := by grind only) | skip)
          clear hcl
          simp only [cond_true, cond_false, setT, List.set_cons_succ, List.set_cons_zero, List.getD_cons_succ, List.getD_cons_zero, List.set_cons_succ]
          (first
          | ((with_reducible apply AP.k_any); refine AP.CB [(1, 1)] 0 (putConfig_ac _ r.book.cfg h1 hl) ?_)
          | ((with_reducible apply AP.k_any); refine AP.CB [(1, 1)] 0 (wint_ac (putC (addS (false, []) [r.kind]) r.book.cfg) r.book.since g1) ?_)
          | ((with_reducible apply AP.k_any); refine AP.CB [(1, 1)] 0 (wflag_ac _ r.book.whole g2) ?_)
          | ((with_reducible apply AP.k_any); refine AP.CB [(1, 1)] 0 (wint_ac _ r.book.upto g3) ?_)
          | ((with_reducible apply AP.k_any); refine AP.CB [(1, 1)] 0 (wflag_ac _ r.drop g4) ?_)
          | fail "no arm")
          all_goals (try simp only [nx, Nat.reduceAdd, Nat.reduceSub, BEq.rfl])
          refine AP.nil ?_
          exact ⟨rfl, rfl⟩
    have hk : (r.kind.toNat : Int) = 1 := by simp at *; omega
    have ef : formR r = putB r := by simp only [formR, if_pos hk]
    have hp : (putB r).2.length ≤ 65536 := addS_len g4
    have e : (if mayR r = true then AV.tu [bs none (if (formR r).1 then [] else (formR r).2), I (if (formR r).1 then 3 else 0)] else AV.tu [bs none [], I 2]) = AV.tu [bs none (if (putB r).1 then [] else (putB r).2), I (if (putB r).1 then 3 else 0)] := by rw [if_pos hm, ef]
    repeat' (first
      | ((first
      | ((with_reducible apply AP.k_any); first
               | refine AP.S ?_
               | (refine AP.V (fun c hnil => ?_); simp only [nz])
        )
      | ((with_reducible apply AP.k_any); refine AP.CB [(1, 1)] 0 (wdone_ac (putB r) hp) ?_)
      )
        <;> (try simp only [nx, Nat.reduceAdd, Nat.reduceSub, BEq.rfl]))
      | ((with_reducible apply AP.k_nil); first
          | (refine AP.nil (hQ' _ ?_); clear hQ' Q')
          | refine AP.nil ?_)
      | ((with_reducible apply CP.k_reg); refine cp_regG fun Q' hQ' => ?_)
        | (with_reducible apply CP.k_reg1; refine cp_region ?_)
        | ((with_reducible apply CP.k_cond); first | refine cp_condT rfl ?_ | refine cp_condF rfl ?_ | refine cp_cond rfl (fun hc => ?_) (fun hc => ?_))
        | refine CP.go ?_
        | (simp only [List.append_eq, List.cons_append, List.nil_append]))
    (exact RetQ.A [] (by exact ⟨e.symm, rfl⟩))
  · have hk : (r.kind.toNat : Int) = 2 := by simp at *; omega
    have ef : formR r = putE (addS (false, []) [r.kind]) r.entry := by simp only [formR, hk]; rfl
    have hp : (putE (addS (false, []) [r.kind]) r.entry).2.length ≤ 65536 := putE_len h1
    have e : (if mayR r = true then AV.tu [bs none (if (formR r).1 then [] else (formR r).2), I (if (formR r).1 then 3 else 0)] else AV.tu [bs none [], I 2]) = AV.tu [bs none (if (putE (addS (false, []) [r.kind]) r.entry).1 then [] else (putE (addS (false, []) [r.kind]) r.entry).2), I (if (putE (addS (false, []) [r.kind]) r.entry).1 then 3 else 0)] := by rw [if_pos hm, ef]
    repeat' (first
      | ((first
      | ((with_reducible apply AP.k_any); first
               | refine AP.S ?_
               | (refine AP.V (fun c hnil => ?_); simp only [nz])
        )
      | ((with_reducible apply AP.k_any); refine AP.CB [(1, 1)] 0 (wdone_ac _ hp) ?_)
      )
        <;> (try simp only [nx, Nat.reduceAdd, Nat.reduceSub, BEq.rfl]))
      | ((with_reducible apply AP.k_nil); first
          | (refine AP.nil (hQ' _ ?_); clear hQ' Q')
          | refine AP.nil ?_)
      | ((with_reducible apply CP.k_reg); refine cp_regG fun Q' hQ' => ?_)
        | (with_reducible apply CP.k_reg1; refine cp_region ?_)
        | ((with_reducible apply CP.k_cond); first | refine cp_condT rfl ?_ | refine cp_condF rfl ?_ | refine cp_cond rfl (fun hc => ?_) (fun hc => ?_))
        | refine CP.go ?_
        | (simp only [List.append_eq, List.cons_append, List.nil_append]))
    (exact RetQ.A [] (by exact ⟨e.symm, rfl⟩))
  · have hk1 : ¬ (r.kind.toNat : Int) = 1 := by simp at *; omega
    have hk2 : ¬ (r.kind.toNat : Int) = 2 := by simp at *; omega
    have ef : formR r = addS (false, []) [r.kind] := by simp only [formR, if_neg hk1, if_neg hk2]
    have e : (if mayR r = true then AV.tu [bs none (if (formR r).1 then [] else (formR r).2), I (if (formR r).1 then 3 else 0)] else AV.tu [bs none [], I 2]) = AV.tu [bs none (if (addS (false, []) [r.kind]).1 then [] else (addS (false, []) [r.kind]).2), I (if (addS (false, []) [r.kind]).1 then 3 else 0)] := by rw [if_pos hm, ef]
    repeat' (first
      | ((first
      | ((with_reducible apply AP.k_any); first
               | refine AP.S ?_
               | (refine AP.V (fun c hnil => ?_); simp only [nz])
        )
      | ((with_reducible apply AP.k_any); refine AP.CB [(1, 1)] 0 (wdone_ac _ h1) ?_)
      )
        <;> (try simp only [nx, Nat.reduceAdd, Nat.reduceSub, BEq.rfl]))
      | ((with_reducible apply AP.k_nil); first
          | (refine AP.nil (hQ' _ ?_); clear hQ' Q')
          | refine AP.nil ?_)
      | ((with_reducible apply CP.k_reg); refine cp_regG fun Q' hQ' => ?_)
        | (with_reducible apply CP.k_reg1; refine cp_region ?_)
        | ((with_reducible apply CP.k_cond); first | refine cp_condT rfl ?_ | refine cp_condF rfl ?_ | refine cp_cond rfl (fun hc => ?_) (fun hc => ?_))
        | refine CP.go ?_
        | (simp only [List.append_eq, List.cons_append, List.nil_append]))
    (exact RetQ.A [] (by exact ⟨e.symm, rfl⟩))
end Go.Proofs.Ytkdbedbefojieaa

namespace Go.Proofs.Ytkdbedbefojieaa
set_option linter.unusedVariables false
set_option linter.unusedSimpArgs false
set_option maxHeartbeats 8000000
open Go.RowKit
set_option maxRecDepth 100000
theorem formR_eq {r : Record} (h1 : r.book.cfg.members.length ≤ 1000) (h2 : r.entry.body.length ≤ 10000) : formR r = (false, recForm r) := by
  have e0 : addS (false, []) [r.kind] = (false, [r.kind]) := addS_ok (by simp)
  have hc := configF_length r.book.cfg
  unfold formR recForm
  simp only [u8_one, u8_two]
  split
  · unfold putB
    rw [e0, putC_ok (by simp; omega), addS_ok (by simp only [List.length_append, List.length_cons, List.length_nil, intS_length]; omega), addS_ok (by simp only [List.length_append, List.length_cons, List.length_nil, intS_length, flagS_length]; omega), addS_ok (by simp only [List.length_append, List.length_cons, List.length_nil, intS_length, flagS_length]; omega), addS_ok (by simp only [List.length_append, List.length_cons, List.length_nil, intS_length, flagS_length]; omega)]
    simp
  · split
    · rw [e0, putE_ok (by simp; omega)]
    · rw [e0]; simp
def greatS (r : Record) : Bool := decide (50 < (r.book.cfg.members.length : Int)) || decide (3000 < (r.entry.body.length : Int))
theorem great_ac (r : Record) : AC Try.prog 18 [.ag (eR r)] [] (fun v bs => v = B (greatS r) ∧ bs = []) := by
  refine AC.N Try.func18 Try.ntmps18 ?_
  intro X
  simp only [nx, Nat.reduceAdd, Nat.reduceSub, BEq.rfl]
  repeat' (first
    | ((first
    | ((with_reducible apply AP.k_any); first
             | refine AP.S ?_
             | (refine AP.Y ?_; dsimp only) | refine AP.G (fun hg => ?_) (fun hg => ?_)
      )
    
    )
      <;> (try simp only [nx, Nat.reduceAdd, Nat.reduceSub, BEq.rfl]))
    | ((with_reducible apply AP.k_nil); first
        | (refine AP.nil (hQ' _ ?_); clear hQ' Q')
        | refine AP.nil ?_)
    | ((with_reducible apply CP.k_reg); refine cp_regG fun Q' hQ' => ?_)
      | (with_reducible apply CP.k_reg1; refine cp_region ?_)
      | ((with_reducible apply CP.k_cond); first | refine cp_condT rfl ?_ | refine cp_condF rfl ?_ | refine cp_cond rfl (fun hc => ?_) (fun hc => ?_))
      | refine CP.go ?_
      | (simp only [List.append_eq, List.cons_append, List.nil_append]))
  all_goals (refine RetQ.B [] ?_; (try dsimp only [resV, List.getD_cons_succ, List.getD_cons_zero]); ((refine ⟨?_, rfl⟩; simp at *; simp [greatS, *]; try (intro h; omega))))
def printS (r : Record) : List UInt8 × Int := if mayR r = true then (recForm r, 0) else ([], 2)
theorem print_ac (r : Record) (hl : r.book.cfg.members.length ≤ 1000) (hb : r.entry.body.length ≤ 10000) : AC Try.prog 27 [.ag (eR r)] [] (fun v bs' => v = .tu [bs none (printS r).1, I (printS r).2] ∧ bs' = []) := by
  refine (printR_ac r (by omega) (by omega)).mono fun v bs' ⟨h1, h2⟩ => ⟨?_, h2⟩
  rw [h1, formR_eq hl hb, printS]
  split <;> rfl
end Go.Proofs.Ytkdbedbefojieaa

namespace Go.Proofs.Ytkdbedbefojieaa
set_option linter.unusedVariables false
set_option linter.unusedSimpArgs false
set_option maxHeartbeats 8000000
open Go.RowKit
set_option maxRecDepth 100000
/-- a reader of the document: bytes, how many are read, why it is bad -/
structure Rf where
  b : List UInt8
  at_ : Nat
  bad : Int
abbrev tRf : TypeId := 136
abbrev fB (s : Rf) : Bx := .c tRf [bs none s.b, I s.at_, I s.bad]
/-- as the program's -/
def Rf.st (s : Rf) : Int × List UInt8 := (s.bad, if s.bad = 0 then s.b.drop s.at_ else [])
def Rf.ok (s : Rf) : Prop := s.at_ ≤ s.b.length ∧ s.b.length ≤ 100000000
def someF (n : Nat) (s : Rf) : (List UInt8 × Bool) × Rf :=
  if s.bad ≠ 0 then (([], false), s) else if s.b.length - s.at_ < n then (([], false), ⟨s.b, s.at_, 40⟩) else (((s.b.drop s.at_).take n, true), ⟨s.b, s.at_ + n, 0⟩)
theorem dload_ac (b : List UInt8) (n : Nat) (hn : n ≤ 8) (hb : b.length = n) : AC Try.prog 111 [bs none b, I 0, I n] [] (fun v bs' => v = .tu [.sc (.int .u64 (beN b : Int)), B true] ∧ bs' = []) := by
  have hw0 : IntKind.i64.wrap ((b.length : Int) - 0) = (b.length : Int) := by rw [wrap_i64 (by omega) (by omega)]; omega
  have hw1 : IntKind.i64.wrap (0 + (n : Int)) = n := by rw [wrap_i64 (by omega) (by omega)]; omega
  refine AC.N Try.func111 Try.ntmps111 ?_
  intro X
  simp only [nx, Nat.reduceAdd, Nat.reduceSub, BEq.rfl]
  repeat' (first
    | ((first
    | ((with_reducible apply AP.k_any); first
             | refine AP.S ?_
             | refine AP.E ?_
             | (refine AP.Y ?_; dsimp only) | refine AP.G (fun hg => ?_) (fun hg => ?_)
      )
    
    )
      <;> (try simp only [nx, Nat.reduceAdd, Nat.reduceSub, BEq.rfl]))
    | ((with_reducible apply AP.k_nil); first
        | (refine AP.nil (hQ' _ ?_); clear hQ' Q')
        | refine AP.nil ?_)
    | ((with_reducible apply CP.k_reg); refine cp_regG fun Q' hQ' => ?_)
      | (with_reducible apply CP.k_reg1; refine cp_region ?_)
      | ((with_reducible apply CP.k_cond); first | refine cp_condT rfl ?_ | refine cp_condF rfl ?_ | refine cp_cond rfl (fun hc => ?_) (fun hc => ?_))
      | refine CP.go ?_
      | (simp only [List.append_eq, List.cons_append, List.nil_append]))
  all_goals first
    | (exfalso; simp [hw0, hb] at *; done)
    | (exfalso; simp [hw0, hb] at *; omega)
    | skip
  refine cp_loopS [8, 9, 27, 28, 29, 30, 31, 32, 33, 34, 35, 36, 37, 38, 39, 40, 41] (fun k : Nat => n - k) (fun k => k ≤ n) (fun k => [(9, I k), (8, .sc (.int .u64 (beN (b.take k) : Int)))]) (fun _ => []) 0 (Nat.zero_le _) (by exact Gh.W) ?_
  rintro k hk
  simp only [setT, deT, setB, List.set_cons_succ, List.set_cons_zero]
  by_cases hlt : k < n
  · have hw : IntKind.i64.wrap ((k : Int) + 1) = ((k + 1 : Nat) : Int) := wrap_i64 (by omega) (by omega)
    have hb1 := beN_lt (b.take k)
    have hb2 : 256 ^ (b.take k).length ≤ 256 ^ 7 := Nat.pow_le_pow_right (by omega) (by simp; omega)
    have hkb : k < b.length := by omega
    have hsn : beN (b.take (k + 1)) = 256 * beN (b.take k) + b[k].toNat := by rw [List.take_succ_eq_append_getElem hkb, beN_snoc]
    have hcl := b[k].toNat_lt
    have hm : IntKind.u64.wrap (IntKind.u64.wrap (256 * (beN (b.take k) : Int)) + IntKind.u64.wrap (b[k].toNat : Int)) = ((beN (b.take (k + 1)) : Nat) : Int) := by
      rw [hsn]
      generalize beN (b.take k) = x at hb1 hb2
      simp [IntKind.wrap, IntKind.bits, IntKind.signed]; omega
    repeat' (first
      | ((first
      | ((with_reducible apply AP.k_any); first
               | refine AP.S ?_
               | refine AP.E ?_
               | (refine AP.Y ?_; dsimp only) | refine AP.G (fun hg => ?_) (fun hg => ?_)
        )
      
      )
        <;> (try simp only [nx, Nat.reduceAdd, Nat.reduceSub, BEq.rfl]))
      | ((with_reducible apply AP.k_nil); first
          | (refine AP.nil (hQ' _ ?_); clear hQ' Q')
          | refine AP.nil ?_)
      | ((with_reducible apply CP.k_reg); refine cp_regG fun Q' hQ' => ?_)
        | (with_reducible apply CP.k_reg1; refine cp_region ?_)
        | ((with_reducible apply CP.k_cond); first | refine cp_condT rfl ?_ | refine cp_condF rfl ?_ | refine cp_cond rfl (fun hc => ?_) (fun hc => ?_))
        | refine CP.go ?_
        | (simp only [List.append_eq, List.cons_append, List.nil_append]))
    · simp only [hw, hm]
      exact ⟨k + 1, by omega, by omega, by exact Gh.W⟩
    · exfalso; simp [hw1] at *; omega
  · obtain rfl : k = n := by omega
    rw [List.take_of_length_le (by omega)]
    repeat' (first
      | ((first
      | ((with_reducible apply AP.k_any); first
               | refine AP.S ?_
               | refine AP.E ?_
               | (refine AP.Y ?_; dsimp only) | refine AP.G (fun hg => ?_) (fun hg => ?_)
        )
      
      )
        <;> (try simp only [nx, Nat.reduceAdd, Nat.reduceSub, BEq.rfl]))
      | ((with_reducible apply AP.k_nil); first
          | (refine AP.nil (hQ' _ ?_); clear hQ' Q')
          | refine AP.nil ?_)
      | ((with_reducible apply CP.k_reg); refine cp_regG fun Q' hQ' => ?_)
        | (with_reducible apply CP.k_reg1; refine cp_region ?_)
        | ((with_reducible apply CP.k_cond); first | refine cp_condT rfl ?_ | refine cp_condF rfl ?_ | refine cp_cond rfl (fun hc => ?_) (fun hc => ?_))
        | refine CP.go ?_
        | (simp only [List.append_eq, List.cons_append, List.nil_append]))
    all_goals first
      | (exfalso; rw [hw1] at hc; simp at hc; done)
      | (refine RetQ.B [] ?_; (try dsimp only [resV, List.getD_cons_succ, List.getD_cons_zero]); (exact ⟨rfl, rfl⟩))
theorem some_ac (n : Nat) (s : Rf) (hs : s.ok) (hn : n ≤ 4294967295) : AC Try.prog 109 [.bp 0 0 0, I n] [fB s] (fun v bs' => v = .tu [bs none (someF n s).1.1, B (someF n s).1.2] ∧ bs' = [fB (someF n s).2]) := by
  obtain ⟨b, p, e⟩ := s
  obtain ⟨h1, h2⟩ := hs
  dsimp only at h1 h2
  have hw0 : IntKind.i64.wrap ((b.length : Int) - p) = ((b.length - p : Nat) : Int) := by rw [wrap_i64 (by omega) (by omega)]; omega
  by_cases he : e = 0
  · subst he
    by_cases hl : b.length - p < n
    · have e1 : someF n ⟨b, p, 0⟩ = (([], false), ⟨b, p, 40⟩) := by simp [someF, hl]
      rw [e1]
      refine AC.N Try.func109 Try.ntmps109 ?_
      intro X
      simp only [nx, Nat.reduceAdd, Nat.reduceSub, BEq.rfl]
      repeat' (first
        | ((first
        | ((with_reducible apply AP.k_any); first
                 | refine AP.S ?_
                 | (refine AP.V (fun c hnil => ?_); simp only [nz])
          )
        
        | ((with_reducible apply AQ.k_any); first
                        | refine AQ.S ?_
          )
        )
          <;> (try simp only [nx, Nat.reduceAdd, Nat.reduceSub, BEq.rfl]))
        | ((with_reducible apply AP.k_nil); first
            | (refine AP.nil (hQ' _ ?_); clear hQ' Q')
            | refine AP.nil ?_)
        | ((with_reducible apply AQ.k_nil); first | (refine AQ.nil (hQ' _ ?_); clear hQ' Q') | refine AQ.nil ?_)
        | ((with_reducible apply CP.k_drw); refine cp_drw (by kernel_rfl) (by kernel_rfl) fun Q' hQ' => ?_)
        | ((with_reducible apply CP.k_drw1); refine cp_draw (by kernel_rfl) (by kernel_rfl) ?_)
        | ((with_reducible apply CP.k_reg); refine cp_regG fun Q' hQ' => ?_)
          | (with_reducible apply CP.k_reg1; refine cp_region ?_)
          | ((with_reducible apply CP.k_cond); first | refine cp_condT rfl ?_ | refine cp_condF rfl ?_ | refine cp_cond rfl (fun hc => ?_) (fun hc => ?_))
          | refine CP.go ?_
          | (simp only [List.append_eq, List.cons_append, List.nil_append]))
      all_goals first
        | (exfalso; simp [hw0] at *; done)
        | (exfalso; simp [hw0] at *; omega)
        | (exact RetQ.A [(0, 0)] (by exact ⟨rfl, rfl⟩))
    · have e1 : someF n ⟨b, p, 0⟩ = (((b.drop p).take n, true), ⟨b, p + n, 0⟩) := by simp [someF, hl]
      rw [e1]
      have hw1 : IntKind.i64.wrap ((p : Int) + n) = ((p + n : Nat) : Int) := by rw [wrap_i64 (by omega) (by omega)]; omega
      have hw2 : IntKind.i64.wrap (IntKind.i64.wrap ((p : Int) + n) - n) = (p : Int) := by rw [hw1, wrap_i64 (by omega) (by omega)]; omega
      have hcopy := (copy_ac ((b.drop p).take n) (by simp; omega)).ro (r2 := bs none ((b.drop p).take n)) (by simp only [AV.ro, ro_B])
      rw [hw1] at hw2
      have esl : (List.take ((((p + n : Nat) : Int)).toNat - (IntKind.i64.wrap (((p + n : Nat) : Int) - n)).toNat) (List.drop (IntKind.i64.wrap (((p + n : Nat) : Int) - n)).toNat b)) = (b.drop p).take n := by rw [hw2, show (((p + n : Nat) : Int)).toNat - (p : Int).toNat = n by omega, Int.toNat_natCast]
      have g3 : ((p + n : Nat) : Int) ≤ ((b.map eB).length : Int) := by simp; omega
      rw [← esl] at hcopy
      refine AC.N Try.func109 Try.ntmps109 ?_
      intro X
      simp only [nx, Nat.reduceAdd, Nat.reduceSub, BEq.rfl]
      repeat' (first
        | ((first
        | ((with_reducible apply AP.k_any); first
                 | refine AP.S ?_
                 | (refine AP.V (fun c hnil => ?_); simp only [nz])
          )
        
        )
          <;> (try simp only [nx, Nat.reduceAdd, Nat.reduceSub, BEq.rfl]))
        | ((with_reducible apply AP.k_nil); first
            | (refine AP.nil (hQ' _ ?_); clear hQ' Q')
            | refine AP.nil ?_)
        | ((with_reducible apply CP.k_reg); refine cp_regG fun Q' hQ' => ?_)
          | (with_reducible apply CP.k_reg1; refine cp_region ?_)
          | ((with_reducible apply CP.k_cond); first | refine cp_condT rfl ?_ | refine cp_condF rfl ?_ | refine cp_cond rfl (fun hc => ?_) (fun hc => ?_))
          | refine CP.go ?_
          | (simp only [List.append_eq, List.cons_append, List.nil_append]))
      first | refine cp_drw (by kernel_rfl) (by kernel_rfl) fun Q' hQ' => ?_ | refine cp_draw (by kernel_rfl) (by kernel_rfl) ?_
      repeat' (first
        | ((first
        | ((with_reducible apply AP.k_any); first
                 | refine AP.S ?_
                 | (refine AP.V (fun c hnil => ?_); simp only [nz])
          )
        
        | ((with_reducible apply AQ.k_any); first
                        | refine AQ.S ?_
          )
        )
          <;> (try simp only [nx, Nat.reduceAdd, Nat.reduceSub, BEq.rfl]))
        | ((with_reducible apply AP.k_nil); first
            | (refine AP.nil (hQ' _ ?_); clear hQ' Q')
            | refine AP.nil ?_)
        | ((with_reducible apply AQ.k_nil); first | (refine AQ.nil (hQ' _ ?_); clear hQ' Q') | refine AQ.nil ?_)
        | ((with_reducible apply CP.k_reg); refine cp_regG fun Q' hQ' => ?_)
          | (with_reducible apply CP.k_reg1; refine cp_region ?_)
          | ((with_reducible apply CP.k_cond); first | refine cp_condT rfl ?_ | refine cp_condF rfl ?_ | refine cp_cond rfl (fun hc => ?_) (fun hc => ?_))
          | refine CP.go ?_
          | (simp only [List.append_eq, List.cons_append, List.nil_append]))
      · exfalso; simp [hw0] at *; omega
      simp only [hw1]
      refine cp_drawI (fun zs zb => ⟨setT zs.t [(35, cond (zb.getD 0 false) (.bp 0 0 0) (.tu [])), (36, cond (zb.getD 1 false) (.bp 0 0 0) (.tu [])), (37, cond (zb.getD 2 false) (.bp 0 0 0) (.tu [])), (38, cond (zb.getD 3 false) (bs none b) (.tu [])), (39, cond (zb.getD 4 false) (.bp 0 0 0) (.tu [])), (40, cond (zb.getD 5 false) (.bp 0 0 0) (.tu [])), (41, cond (zb.getD 6 false) (.bp 0 0 1) (.tu [])), (42, cond (zb.getD 7 false) (I ((p + n : Nat) : Int)) (.tu [])), (43, cond (zb.getD 8 false) (I n) (.tu [])), (44, cond (zb.getD 9 false) (I (IntKind.i64.wrap (((p + n : Nat) : Int) - n))) (.tu [])), (45, cond (zb.getD 10 false) (.bp 0 0 0) (.tu [])), (46, cond (zb.getD 11 false) (.bp 0 0 0) (.tu [])), (47, cond (zb.getD 12 false) (.bp 0 0 1) (.tu [])), (48, cond (zb.getD 13 false) (I ((p + n : Nat) : Int)) (.tu [])), (49, cond (zb.getD 14 false) (bs none (List.take ((((p + n : Nat) : Int)).toNat - (IntKind.i64.wrap (((p + n : Nat) : Int) - n)).toNat) (List.drop (IntKind.i64.wrap (((p + n : Nat) : Int) - n)).toNat b))) (.tu [])), (50, cond (zb.getD 15 false) (bs none (List.take ((((p + n : Nat) : Int)).toNat - (IntKind.i64.wrap (((p + n : Nat) : Int) - n)).toNat) (List.drop (IntKind.i64.wrap (((p + n : Nat) : Int) - n)).toNat b))) (.tu [])), (4, cond (zb.getD 16 false) (bs none (List.take ((((p + n : Nat) : Int)).toNat - (IntKind.i64.wrap (((p + n : Nat) : Int) - n)).toNat) (List.drop (IntKind.i64.wrap (((p + n : Nat) : Int) - n)).toNat b))) (.sc (.slice none 0 0))), (5, cond (zb.getD 17 false) (B true) (B false))], zs.b⟩) (by kernel_rfl) (by kernel_rfl) (by kernel_rfl) ?_ ?_
      rotate_left
      simp only [cond_true, cond_false, setT, List.set_cons_succ, List.set_cons_zero, List.getD_cons_succ, List.getD_cons_zero, List.set_cons_succ, List.length_cons, List.length_nil, List.replicate_succ, List.replicate_zero, Nat.reduceAdd]
      rotate_left
      · intro b hb' hcl
        obtain ⟨l0, b0, rfl, hb0⟩ := len_cons hb'
        obtain ⟨l1, b1, rfl, hb1⟩ := len_cons hb0
        obtain ⟨l2, b2, rfl, hb2⟩ := len_cons hb1
        obtain ⟨l3, b3, rfl, hb3⟩ := len_cons hb2
        obtain ⟨l4, b4, rfl, hb4⟩ := len_cons hb3
        obtain ⟨l5, b5, rfl, hb5⟩ := len_cons hb4
        obtain ⟨l6, b6, rfl, hb6⟩ := len_cons hb5
        obtain ⟨l7, b7, rfl, hb7⟩ := len_cons hb6
        obtain ⟨l8, b8, rfl, hb8⟩ := len_cons hb7
        obtain ⟨l9, b9, rfl, hb9⟩ := len_cons hb8
        obtain ⟨l10, b10, rfl, hb10⟩ := len_cons hb9
        obtain ⟨l11, b11, rfl, hb11⟩ := len_cons hb10
        obtain ⟨l12, b12, rfl, hb12⟩ := len_cons hb11
        obtain ⟨l13, b13, rfl, hb13⟩ := len_cons hb12
        obtain ⟨l14, b14, rfl, hb14⟩ := len_cons hb13
        obtain ⟨l15, b15, rfl, hb15⟩ := len_cons hb14
        obtain ⟨l16, b16, rfl, hb16⟩ := len_cons hb15
        obtain ⟨l17, b17, rfl, hb17⟩ := len_cons hb16
        obtain rfl := List.length_eq_zero_iff.1 hb17
        clear hb' hb0 hb1 hb2 hb3 hb4 hb5 hb6 hb7 hb8 hb9 hb10 hb11 hb12 hb13 hb14 hb15 hb16 hb17
        · simp only [closedB, depsOk, Region.binds, List.toList_toArray, List.all_cons, List.all_nil, List.getD_cons_succ, List.getD_cons_zero, Bool.not_true, Bool.not_false, Bool.true_or, Bool.false_or, Bool.and_true, Bool.true_and, Bool.or_true, Bool.and_false, Bool.or_false, Bool.false_and, Bool.and_eq_true, Bool.or_eq_true, Bool.not_eq_true'] at hcl
          simp only [StepsP]
          refine ⟨?_, ?_, ?_, ?_, ?_, ?_, ?_, ?_, ?_, ?_, ?_, ?_, ?_, ?_, ?_, ?_, ?_, ?_, trivial⟩
          · intro h1 h2
            simp [depsOk, Region.binds] at h1 h2
            subst h1
            (repeat (obtain ⟨rfl, h2⟩ := h2))
            (try subst h2)
            clear hcl
            simp only [cond_true, cond_false, setT, List.set_cons_succ, List.set_cons_zero, List.getD_cons_succ, List.getD_cons_zero, List.set_cons_succ]
            (with_reducible apply AP.k_any); first | (refine AP.sm false rfl ?_ ?_; focus ((repeat' (with_reducible apply And.intro)) <;> (first | exact True.intro | exact rfl | omega | (simp; omega) | (simp; done) | assumption | exact .inl rfl | (refine .inr ?_; simp; try omega)))) | fail "no step"
            all_goals (try simp only [nx, Nat.reduceAdd, Nat.reduceSub, BEq.rfl])
            refine AP.nil ?_
            exact ⟨rfl, rfl⟩
          · intro h1 h2
            simp [depsOk, Region.binds] at h1 h2
            subst h1
            (repeat (obtain ⟨rfl, h2⟩ := h2))
            (try subst h2)
            clear hcl
            simp only [cond_true, cond_false, setT, List.set_cons_succ, List.set_cons_zero, List.getD_cons_succ, List.getD_cons_zero, List.set_cons_succ]
            (with_reducible apply AP.k_any); first | (refine AP.sm false rfl ?_ ?_; focus ((repeat' (with_reducible apply And.intro)) <;> (first | exact True.intro | exact rfl | omega | (simp; omega) | (simp; done) | assumption | exact .inl rfl | (refine .inr ?_; simp; try omega)))) | fail "no step"
            all_goals (try simp only [nx, Nat.reduceAdd, Nat.reduceSub, BEq.rfl])
            refine AP.nil ?_
            exact ⟨rfl, rfl⟩
          · intro h1 h2
            simp [depsOk, Region.binds] at h1 h2
            subst h1
            (repeat (obtain ⟨rfl, h2⟩ := h2))
            (try subst h2)
            clear hcl
            simp only [cond_true, cond_false, setT, List.set_cons_succ, List.set_cons_zero, List.getD_cons_succ, List.getD_cons_zero, List.set_cons_succ]
            (with_reducible apply AP.k_any); first | (refine AP.sm false rfl ?_ ?_; focus ((repeat' (with_reducible apply And.intro)) <;> (first | exact True.intro | exact rfl | omega | (simp; omega) | (simp; done) | assumption | exact .inl rfl | (refine .inr ?_; simp; try omega)))) | fail "no step"
            all_goals (try simp only [nx, Nat.reduceAdd, Nat.reduceSub, BEq.rfl])
            refine AP.nil ?_
            exact ⟨rfl, rfl⟩
          · intro h1 h2
            simp [depsOk, Region.binds] at h1 h2
            subst h1
            (repeat (obtain ⟨rfl, h2⟩ := h2))
            (try subst h2)
            clear hcl
            simp only [cond_true, cond_false, setT, List.set_cons_succ, List.set_cons_zero, List.getD_cons_succ, List.getD_cons_zero, List.set_cons_succ]
            (with_reducible apply AP.k_any); first | (refine AP.sm false rfl ?_ ?_; focus ((repeat' (with_reducible apply And.intro)) <;> (first | exact True.intro | exact rfl | omega | (simp; omega) | (simp; done) | assumption | exact .inl rfl | (refine .inr ?_; simp; try omega)))) | (refine AP.el rfl ?_ (by (first | (refine ⟨?_, ?_⟩; assumption; rfl) | exact ⟨mapAt (by (first | omega | (simp; omega) | (simp; done) | assumption)), rfl⟩ | exact ⟨rfl, rfl⟩)) ?_; focus ((repeat' (with_reducible apply And.intro)) <;> (first | exact True.intro | exact rfl | omega | (simp; omega) | (simp; done) | assumption | exact .inl rfl | (refine .inr ?_; simp; try omega)))) | fail "no step"
            all_goals (try simp only [nx, Nat.reduceAdd, Nat.reduceSub, BEq.rfl])
            refine AP.nil ?_
            exact ⟨rfl, rfl⟩
          · intro h1 h2
            simp [depsOk, Region.binds] at h1 h2
            subst h1
            (repeat (obtain ⟨rfl, h2⟩ := h2))
            (try subst h2)
            clear hcl
            simp only [cond_true, cond_false, setT, List.set_cons_succ, List.set_cons_zero, List.getD_cons_succ, List.getD_cons_zero, List.set_cons_succ]
            (with_reducible apply AP.k_any); first | (refine AP.sm false rfl ?_ ?_; focus ((repeat' (with_reducible apply And.intro)) <;> (first | exact True.intro | exact rfl | omega | (simp; omega) | (simp; done) | assumption | exact .inl rfl | (refine .inr ?_; simp; try omega)))) | fail "no step"
            all_goals (try simp only [nx, Nat.reduceAdd, Nat.reduceSub, BEq.rfl])
            refine AP.nil ?_
            exact ⟨rfl, rfl⟩
          · intro h1 h2
            simp [depsOk, Region.binds] at h1 h2
            subst h1
            (repeat (obtain ⟨rfl, h2⟩ := h2))
            (try subst h2)
            clear hcl
            simp only [cond_true, cond_false, setT, List.set_cons_succ, List.set_cons_zero, List.getD_cons_succ, List.getD_cons_zero, List.set_cons_succ]
            (with_reducible apply AP.k_any); first | (refine AP.sm false rfl ?_ ?_; focus ((repeat' (with_reducible apply And.intro)) <;> (first | exact True.intro | exact rfl | omega | (simp; omega) | (simp; done) | assumption | exact .inl rfl | (refine .inr ?_; simp; try omega)))) | fail "no step"
            all_goals (try simp only [nx, Nat.reduceAdd, Nat.reduceSub, BEq.rfl])
            refine AP.nil ?_
            exact ⟨rfl, rfl⟩
          · intro h1 h2
            simp [depsOk, Region.binds] at h1 h2
            subst h1
            (repeat (obtain ⟨rfl, h2⟩ := h2))
            (try subst h2)
            clear hcl
            simp only [cond_true, cond_false, setT, List.set_cons_succ, List.set_cons_zero, List.getD_cons_succ, List.getD_cons_zero, List.set_cons_succ]
            (with_reducible apply AP.k_any); first | (refine AP.sm false rfl ?_ ?_; focus ((repeat' (with_reducible apply And.intro)) <;> (first | exact True.intro | exact rfl | omega | (simp; omega) | (simp; done) | assumption | exact .inl rfl | (refine .inr ?_; simp; try omega)))) | fail "no step"
            all_goals (try simp only [nx, Nat.reduceAdd, Nat.reduceSub, BEq.rfl])
            refine AP.nil ?_
            exact ⟨rfl, rfl⟩
          · intro h1 h2
            simp [depsOk, Region.binds] at h1 h2
            subst h1
            (repeat (obtain ⟨rfl, h2⟩ := h2))
            (try subst h2)
            clear hcl
            simp only [cond_true, cond_false, setT, List.set_cons_succ, List.set_cons_zero, List.getD_cons_succ, List.getD_cons_zero, List.set_cons_succ]
            (with_reducible apply AP.k_any); first | (refine AP.sm false rfl ?_ ?_; focus ((repeat' (with_reducible apply And.intro)) <;> (first | exact True.intro | exact rfl | omega | (simp; omega) | (simp; done) | assumption | exact .inl rfl | (refine .inr ?_; simp; try omega)))) | (refine AP.el rfl ?_ (by (first | (refine ⟨?_, ?_⟩; assumption; rfl) | exact ⟨mapAt (by (first | omega | (simp; omega) | (simp; done) | assumption)), rfl⟩ | exact ⟨rfl, rfl⟩)) ?_; focus ((repeat' (with_reducible apply And.intro)) <;> (first | exact True.intro | exact rfl | omega | (simp; omega) | (simp; done) | assumption | exact .inl rfl | (refine .inr ?_; simp; try omega)))) | fail "no step"
            all_goals (try simp only [nx, Nat.reduceAdd, Nat.reduceSub, BEq.rfl])
            refine AP.nil ?_
            exact ⟨rfl, rfl⟩
          · intro h1 h2
            simp [depsOk, Region.binds] at h1 h2
            subst h1
            (repeat (obtain ⟨rfl, h2⟩ := h2))
            (try subst h2)
            clear hcl
            simp only [cond_true, cond_false, setT, List.set_cons_succ, List.set_cons_zero, List.getD_cons_succ, List.getD_cons_zero, List.set_cons_succ]
            (with_reducible apply AP.k_any); first | (refine AP.sm false rfl ?_ ?_; focus ((repeat' (with_reducible apply And.intro)) <;> (first | exact True.intro | exact rfl | omega | (simp; omega) | (simp; done) | assumption | exact .inl rfl | (refine .inr ?_; simp; try omega)))) | fail "no step"
            all_goals (try simp only [nx, Nat.reduceAdd, Nat.reduceSub, BEq.rfl])
            refine AP.nil ?_
            exact ⟨rfl, rfl⟩
          · intro h1 h2
            simp [depsOk, Region.binds] at h1 h2
            subst h1
            (repeat (obtain ⟨rfl, h2⟩ := h2))
            (try subst h2)
            clear hcl
            simp only [cond_true, cond_false, setT, List.set_cons_succ, List.set_cons_zero, List.getD_cons_succ, List.getD_cons_zero, List.set_cons_succ]
            (with_reducible apply AP.k_any); first | (refine AP.sm false rfl ?_ ?_; focus ((repeat' (with_reducible apply And.intro)) <;> (first | exact True.intro | exact rfl | omega | (simp; omega) | (simp; done) | assumption | exact .inl rfl | (refine .inr ?_; simp; try omega)))) | fail "no step"
            all_goals (try simp only [nx, Nat.reduceAdd, Nat.reduceSub, BEq.rfl])
            refine AP.nil ?_
            exact ⟨rfl, rfl⟩
          · intro h1 h2
            simp [depsOk, Region.binds] at h1 h2
            subst h1
            (repeat (obtain ⟨rfl, h2⟩ := h2))
            (try subst h2)
            clear hcl
            simp only [cond_true, cond_false, setT, List.set_cons_succ, List.set_cons_zero, List.getD_cons_succ, List.getD_cons_zero, List.set_cons_succ]
            (with_reducible apply AP.k_any); first | (refine AP.sm false rfl ?_ ?_; focus ((repeat' (with_reducible apply And.intro)) <;> (first | exact True.intro | exact rfl | omega | (simp; omega) | (simp; done) | assumption | exact .inl rfl | (refine .inr ?_; simp; try omega)))) | fail "no step"
            all_goals (try simp only [nx, Nat.reduceAdd, Nat.reduceSub, BEq.rfl])
            refine AP.nil ?_
            exact ⟨rfl, rfl⟩
          · intro h1 h2
            simp [depsOk, Region.binds] at h1 h2
            subst h1
            (repeat (obtain ⟨rfl, h2⟩ := h2))
            (try subst h2)
            clear hcl
            simp only [cond_true, cond_false, setT, List.set_cons_succ, List.set_cons_zero, List.getD_cons_succ, List.getD_cons_zero, List.set_cons_succ]
            (with_reducible apply AP.k_any); first | (refine AP.sm false rfl ?_ ?_; focus ((repeat' (with_reducible apply And.intro)) <;> (first | exact True.intro | exact rfl | omega | (simp; omega) | (simp; done) | assumption | exact .inl rfl | (refine .inr ?_; simp; try omega)))) | fail "no step"
            all_goals (try simp only [nx, Nat.reduceAdd, Nat.reduceSub, BEq.rfl])
            refine AP.nil ?_
            exact ⟨rfl, rfl⟩
          · intro h1 h2
            simp [depsOk, Region.binds] at h1 h2
            subst h1
            (repeat (obtain ⟨rfl, h2⟩ := h2))
            (try subst h2)
            clear hcl
            simp only [cond_true, cond_false, setT, List.set_cons_succ, List.set_cons_zero, List.getD_cons_succ, List.getD_cons_zero, List.set_cons_succ]
            (with_reducible apply AP.k_any); first | (refine AP.sm false rfl ?_ ?_; focus ((repeat' (with_reducible apply And.intro)) <;> (first | exact True.intro | exact rfl | omega | (simp; omega) | (simp; done) | assumption | exact .inl rfl | (refine .inr ?_; simp; try omega)))) | fail "no step"
            all_goals (try simp only [nx, Nat.reduceAdd, Nat.reduceSub, BEq.rfl])
            refine AP.nil ?_
            exact ⟨rfl, rfl⟩
          · intro h1 h2
            simp [depsOk, Region.binds] at h1 h2
            subst h1
            (repeat (obtain ⟨rfl, h2⟩ := h2))
            (try subst h2)
            clear hcl
            simp only [cond_true, cond_false, setT, List.set_cons_succ, List.set_cons_zero, List.getD_cons_succ, List.getD_cons_zero, List.set_cons_succ]
            (with_reducible apply AP.k_any); first | (refine AP.sm false rfl ?_ ?_; focus ((repeat' (with_reducible apply And.intro)) <;> (first | exact True.intro | exact rfl | omega | (simp; omega) | (simp; done) | assumption | exact .inl rfl | (refine .inr ?_; simp; try omega)))) | (refine AP.el rfl ?_ (by (first | (refine ⟨?_, ?_⟩; assumption; rfl) | exact ⟨mapAt (by (first | omega | (simp; omega) | (simp; done) | assumption)), rfl⟩ | exact ⟨rfl, rfl⟩)) ?_; focus ((repeat' (with_reducible apply And.intro)) <;> (first | exact True.intro | exact rfl | omega | (simp; omega) | (simp; done) | assumption | exact .inl rfl | (refine .inr ?_; simp; try omega)))) | fail "no step"
            all_goals (try simp only [nx, Nat.reduceAdd, Nat.reduceSub, BEq.rfl])
            refine AP.nil ?_
            exact ⟨rfl, rfl⟩
          · intro h1 h2
            simp [depsOk, Region.binds] at h1 h2
            subst h1
            (repeat (obtain ⟨rfl, h2⟩ := h2))
            (try subst h2)
            clear hcl
            simp only [cond_true, cond_false, setT, List.set_cons_succ, List.set_cons_zero, List.getD_cons_succ, List.getD_cons_zero, List.set_cons_succ]
            (with_reducible apply AP.k_any); first | (refine AP.sm false rfl ?_ ?_; focus ((repeat' (with_reducible apply And.intro)) <;> (first | exact True.intro | exact rfl | omega | (simp; omega) | (simp; done) | assumption | exact .inl rfl | (refine .inr ?_; simp; try omega)))) | fail "no step"
            all_goals (try simp only [nx, Nat.reduceAdd, Nat.reduceSub, BEq.rfl])
            refine AP.nil ?_
            exact ⟨rfl, rfl⟩
          · intro h1 h2
            simp [depsOk, Region.binds] at h1 h2
            subst h1
            (repeat (obtain ⟨rfl, h2⟩ := h2))
            (try subst h2)
            clear hcl
            simp only [cond_true, cond_false, setT, List.set_cons_succ, List.set_cons_zero, List.getD_cons_succ, List.getD_cons_zero, List.set_cons_succ]
            (first
            | ((with_reducible apply AP.k_any); refine AP.C (hcopy) ?_)
            | fail "no arm")
            all_goals (try simp only [nx, Nat.reduceAdd, Nat.reduceSub, BEq.rfl])
            refine AP.nil ?_
            exact ⟨rfl, rfl⟩
          · intro h1 h2
            simp [depsOk, Region.binds] at h1 h2
            subst h1
            (repeat (obtain ⟨rfl, h2⟩ := h2))
            (try subst h2)
            clear hcl
            simp only [cond_true, cond_false, setT, List.set_cons_succ, List.set_cons_zero, List.getD_cons_succ, List.getD_cons_zero, List.set_cons_succ]
            (with_reducible apply AP.k_any); first | (refine AP.sm false rfl ?_ ?_; focus ((repeat' (with_reducible apply And.intro)) <;> (first | exact True.intro | exact rfl | omega | (simp; omega) | (simp; done) | assumption | exact .inl rfl | (refine .inr ?_; simp; try omega)))) | fail "no step"
            all_goals (try simp only [nx, Nat.reduceAdd, Nat.reduceSub, BEq.rfl])
            refine AP.nil ?_
            exact ⟨rfl, rfl⟩
          · intro h1 h2
            simp [depsOk, Region.binds] at h1 h2
            subst h1
            (repeat (obtain ⟨rfl, h2⟩ := h2))
            (try subst h2)
            clear hcl
            simp only [cond_true, cond_false, setT, List.set_cons_succ, List.set_cons_zero, List.getD_cons_succ, List.getD_cons_zero, List.set_cons_succ]
            (with_reducible apply AP.k_any); first | (refine AP.sm false rfl ?_ ?_; focus ((repeat' (with_reducible apply And.intro)) <;> (first | exact True.intro | exact rfl | omega | (simp; omega) | (simp; done) | assumption | exact .inl rfl | (refine .inr ?_; simp; try omega)))) | fail "no step"
            all_goals (try simp only [nx, Nat.reduceAdd, Nat.reduceSub, BEq.rfl])
            refine AP.nil ?_
            exact ⟨rfl, rfl⟩
      simp only [esl]
      repeat' (first
        | ((first
        | ((with_reducible apply AP.k_any); first
                 | refine AP.S ?_
                 | (refine AP.V (fun c hnil => ?_); simp only [nz])
          )
        
        )
          <;> (try simp only [nx, Nat.reduceAdd, Nat.reduceSub, BEq.rfl]))
        | ((with_reducible apply AP.k_nil); first
            | (refine AP.nil (hQ' _ ?_); clear hQ' Q')
            | refine AP.nil ?_)
        | ((with_reducible apply CP.k_reg); refine cp_regG fun Q' hQ' => ?_)
          | (with_reducible apply CP.k_reg1; refine cp_region ?_)
          | ((with_reducible apply CP.k_cond); first | refine cp_condT rfl ?_ | refine cp_condF rfl ?_ | refine cp_cond rfl (fun hc => ?_) (fun hc => ?_))
          | refine CP.go ?_
          | (simp only [List.append_eq, List.cons_append, List.nil_append]))
      (exact RetQ.A [(0, 0)] (by exact ⟨rfl, rfl⟩))
  · have e1 : someF n ⟨b, p, e⟩ = (([], false), ⟨b, p, e⟩) := by simp [someF, he]
    rw [e1]
    refine AC.N Try.func109 Try.ntmps109 ?_
    intro X
    simp only [nx, Nat.reduceAdd, Nat.reduceSub, BEq.rfl]
    repeat' (first
      | ((first
      | ((with_reducible apply AP.k_any); first
               | refine AP.S ?_
               | (refine AP.V (fun c hnil => ?_); simp only [nz])
        )
      
      | ((with_reducible apply AQ.k_any); first
                      | refine AQ.S ?_
        )
      )
        <;> (try simp only [nx, Nat.reduceAdd, Nat.reduceSub, BEq.rfl]))
      | ((with_reducible apply AP.k_nil); first
          | (refine AP.nil (hQ' _ ?_); clear hQ' Q')
          | refine AP.nil ?_)
      | ((with_reducible apply AQ.k_nil); first | (refine AQ.nil (hQ' _ ?_); clear hQ' Q') | refine AQ.nil ?_)
      | ((with_reducible apply CP.k_drw); refine cp_drw (by kernel_rfl) (by kernel_rfl) fun Q' hQ' => ?_)
      | ((with_reducible apply CP.k_drw1); refine cp_draw (by kernel_rfl) (by kernel_rfl) ?_)
      | ((with_reducible apply CP.k_reg); refine cp_regG fun Q' hQ' => ?_)
        | (with_reducible apply CP.k_reg1; refine cp_region ?_)
        | ((with_reducible apply CP.k_cond); first | refine cp_condT rfl ?_ | refine cp_condF rfl ?_ | refine cp_cond rfl (fun hc => ?_) (fun hc => ?_))
        | refine CP.go ?_
        | (simp only [List.append_eq, List.cons_append, List.nil_append]))
    all_goals first
      | (exfalso; simp at *; omega)
      | (exact RetQ.A [(0, 0)] (by exact ⟨rfl, rfl⟩))
end Go.Proofs.Ytkdbedbefojieaa

namespace Go.Proofs.Ytkdbedbefojieaa
set_option linter.unusedVariables false
set_option linter.unusedSimpArgs false
open Go.RowKit
set_option maxRecDepth 100000
abbrev St := Int × List UInt8
def newF (b : List UInt8) : Rf := if 65536 < b.length then ⟨[], 0, 3⟩ else ⟨b, 0, 0⟩
def byteF (s : Rf) : UInt8 × Rf := (if (someF 1 s).1.2 then (someF 1 s).1.1.headD 0 else 0, (someF 1 s).2)
def intF (s : Rf) : Int × Rf := (if (someF 8 s).1.2 then toI (beN (someF 8 s).1.1) else 0, (someF 8 s).2)
def Rf.spoil (s : Rf) : Rf := ⟨s.b, s.at_, 40⟩
def flagF (s : Rf) : Bool × Rf := ((byteF s).1 == 1, if 1 < (byteF s).1.toNat then (byteF s).2.spoil else (byteF s).2)
def bytesF (s : Rf) : List UInt8 × Rf :=
  if (someF 4 s).1.2 then (if 65536 < beN (someF 4 s).1.1 then ([], (someF 4 s).2.spoil) else ((someF (beN (someF 4 s).1.1) (someF 4 s).2).1.1, (someF (beN (someF 4 s).1.1) (someF 4 s).2).2)) else ([], (someF 4 s).2)
def Rf.left (s : Rf) : Nat := s.b.length - s.at_
def countF (m : Int) (s : Rf) : Int × Rf :=
  if (intF s).2.bad = 0 then (if (intF s).1 < 0 ∨ m < (intF s).1 ∨ ((intF s).2.left : Int) < (intF s).1 then (0, (intF s).2.spoil) else intF s) else (0, (intF s).2)
def endF (s : Rf) : Int := if s.bad = 0 ∧ s.at_ < s.b.length then 40 else s.bad
theorem someF_len {n : Nat} {s : Rf} (hs : s.ok) (h : (someF n s).1.2 = true) : (someF n s).1.1.length = n := by
  unfold someF at h ⊢
  split
  · rename_i h1; simp [h1] at h
  · split
    · rename_i h1 h2; simp [h1, h2] at h
    · simp; omega
theorem someF_nil {n : Nat} {s : Rf} (h : (someF n s).1.2 = false) : (someF n s).1.1 = [] := by
  unfold someF at h ⊢
  split
  · rfl
  · split
    · rfl
    · rename_i h1 h2; simp [h1, h2] at h
theorem someF_ok {n : Nat} {s : Rf} (hs : s.ok) : (someF n s).2.ok := by
  unfold someF
  split
  · exact hs
  · split
    · exact hs
    · exact ⟨by have := hs.1; dsimp only; omega, hs.2⟩
theorem someF_st {n : Nat} {s : Rf} (hs : s.ok) : (someF n s).2.st = (if (someF n s).1.2 then (0, s.st.2.drop n) else ((someF n s).2.bad, [])) ∧ ((someF n s).1.2 = true → s.bad = 0 ∧ (someF n s).2.bad = 0 ∧ (someF n s).1.1 = s.st.2.take n ∧ n ≤ s.st.2.length) ∧ ((someF n s).1.2 = false → ((s.bad ≠ 0 ∧ (someF n s).2 = s) ∨ (s.bad = 0 ∧ (someF n s).2.bad = 40 ∧ s.st.2.length < n))) := by
  obtain ⟨b, p, e⟩ := s
  by_cases he : e = 0
  · subst he
    by_cases hl : b.length - p < n
    · simp [someF, hl, Rf.st]
    · simp [someF, hl, Rf.st]
      omega
  · simp [someF, he, Rf.st]
theorem take_some {α : Type} (z : α) (g : List UInt8 → α × Bool) (n : Nat) {s : Rf} (hs : s.ok) {n' : Int} (hn' : n' = n) :
    takeS z g n' s.st = if (someF n s).1.2 then (if (g (someF n s).1.1).2 = true then ((g (someF n s).1.1).1, (someF n s).2.st) else (z, (40, []))) else (z, (someF n s).2.st) := by
  subst hn'
  obtain ⟨h1, h2, h3⟩ := someF_st (n := n) hs
  cases h : (someF n s).1.2 with
  | true =>
    obtain ⟨a1, a2, a3, a4⟩ := h2 h
    rw [h] at h1
    rw [h1]
    have e1 : s.st.1 = 0 := a1
    simp only [takeS, e1, if_true]
    rw [if_neg (by simp), if_neg (by omega), Int.toNat_natCast, a3]
  | false =>
    rw [h] at h1
    rw [h1]
    rcases h3 h with ⟨a1, a2⟩ | ⟨a1, a2, a3⟩
    · rw [a2]
      simp [takeS, Rf.st, a1]
    · have e1 : s.st.1 = 0 := a1
      simp only [takeS, e1]
      rw [if_neg (by simp), if_pos (by omega), a2]
      simp
def Sim {α : Type} (f : Rf → α × Rf) (r : St → α × St) : Prop := ∀ s : Rf, s.ok → (f s).1 = (r s.st).1 ∧ (f s).2.st = (r s.st).2 ∧ (f s).2.ok
theorem spoil_st (s : Rf) : s.spoil.st = (40, []) := by simp [Rf.spoil, Rf.st]
theorem sim_byte : Sim byteF byteR := fun s hs => by
  have h := take_some (0 : UInt8) byteG 1 hs (n' := 1) rfl
  refine ⟨?_, ?_, someF_ok hs⟩ <;> (unfold byteF byteR; rw [h]) <;> (cases hb : (someF 1 s).1.2 <;> simp [byteG, hb])
theorem sim_int : Sim intF intR := fun s hs => by
  have h := take_some (0 : Int) intG 8 hs (n' := 8) rfl
  refine ⟨?_, ?_, someF_ok hs⟩ <;> (unfold intF intR; rw [h]) <;> (cases hb : (someF 8 s).1.2 <;> simp [intG, hb])
theorem sim_flag : Sim flagF flagR := fun s hs => by
  have h := take_some false flagG 1 hs (n' := 1) rfl
  refine ⟨?_, ?_, ?_⟩
  · unfold flagF flagR byteF
    rw [h]
    cases hb : (someF 1 s).1.2
    · simp
    · by_cases h1 : (someF 1 s).1.1.headD 0 ≤ 1
      · simp only [flagG, h1, decide_true, if_true]
      · simp only [flagG, h1]
        simp
        rintro h2
        simp [h2] at h1
  · unfold flagF flagR byteF
    rw [h]
    cases hb : (someF 1 s).1.2
    · simp
    · by_cases h1 : (someF 1 s).1.1.headD 0 ≤ 1
      · have h2 : ¬ 1 < ((someF 1 s).1.1.headD 0).toNat := by rw [UInt8.le_iff_toNat_le] at h1; simpa using h1
        simp only [flagG, h1]
        simp [-List.headD_eq_head?_getD, h2]
      · have h2 : 1 < ((someF 1 s).1.1.headD 0).toNat := by rw [UInt8.le_iff_toNat_le] at h1; simp at h1 ⊢; omega
        simp only [flagG, h1]
        simp [-List.headD_eq_head?_getD, h2, spoil_st]
  · unfold flagF
    dsimp only
    split
    · exact someF_ok (n := 1) hs
    · exact someF_ok (n := 1) hs
theorem sim_bytes : Sim bytesF bytesR := fun s hs => by
  have h := take_some (0 : Int) lenG 4 hs (n' := 4) rfl
  have hok := someF_ok (n := 4) hs
  have hl : lenR s.st = if (someF 4 s).1.2 then (if 65536 < beN (someF 4 s).1.1 then ((0 : Int), ((40 : Int), ([] : List UInt8))) else ((beN (someF 4 s).1.1 : Int), (someF 4 s).2.st)) else (0, (someF 4 s).2.st) := by
    unfold lenR
    rw [h]
    cases hb : (someF 4 s).1.2
    · simp
    · by_cases hn : 65536 < beN (someF 4 s).1.1
      · have h2 : ¬ beN (someF 4 s).1.1 ≤ 65536 := by omega
        simp [lenG, hn, h2]
      · have h2 : beN (someF 4 s).1.1 ≤ 65536 := by omega
        simp [lenG, hn, h2]
  unfold bytesF bytesR
  rw [hl]
  cases hb : (someF 4 s).1.2
  · obtain ⟨h1, h2, h3⟩ := someF_st (n := 4) hs
    rw [hb] at h1
    simp only [Bool.false_eq_true, if_false]
    have hbad : (someF 4 s).2.bad ≠ 0 := by
      rcases h3 hb with ⟨a1, a2⟩ | ⟨a1, a2, a3⟩
      · rw [a2]; exact a1
      · rw [a2]; decide
    have e : takeS ([] : List UInt8) bytesG 0 (someF 4 s).2.st = ([], (someF 4 s).2.st) := by simp [takeS, Rf.st, hbad]
    rw [e]
    exact ⟨rfl, rfl, hok⟩
  · by_cases hn : 65536 < beN (someF 4 s).1.1
    · simp only [if_true, if_pos hn]
      refine ⟨?_, ?_, hok⟩
      · simp [takeS]
      · simp [takeS, spoil_st]
    · simp only [if_true, if_neg hn]
      have h4 := take_some ([] : List UInt8) bytesG (beN (someF 4 s).1.1) hok rfl
      rw [h4]
      refine ⟨?_, ?_, someF_ok hok⟩
      · cases hb2 : (someF (beN (someF 4 s).1.1) (someF 4 s).2).1.2
        · simp [bytesG, someF_nil hb2]
        · simp [bytesG]
      · cases hb2 : (someF (beN (someF 4 s).1.1) (someF 4 s).2).1.2 <;> simp [bytesG]
theorem st_left {s : Rf} (hs : s.ok) (h : s.bad = 0) : s.st.2.length = s.left := by simp [Rf.st, h, Rf.left]
theorem sim_count (m : Int) : Sim (countF m) (countR m) := fun s hs => by
  have h := take_some (0 : Int) (countG m (leftR s.st - 8)) 8 hs (n' := 8) rfl
  have hok := someF_ok (n := 8) hs
  obtain ⟨h1, h2, h3⟩ := someF_st (n := 8) hs
  unfold countF countR
  rw [h]
  cases hb : (someF 8 s).1.2
  · have hbad : (intF s).2.bad ≠ 0 := by
      show (someF 8 s).2.bad ≠ 0
      rcases h3 hb with ⟨a1, a2⟩ | ⟨a1, a2, a3⟩
      · rw [a2]; exact a1
      · rw [a2]; decide
    simp only [Bool.false_eq_true, if_false, if_neg hbad]
    refine ⟨?_, ?_, ?_⟩ <;> first | trivial | rfl | exact hok
  · obtain ⟨a1, a2, a3, a4⟩ := h2 hb
    have hbad : (intF s).2.bad = 0 := a2
    have e1 : (intF s).1 = toI (beN (someF 8 s).1.1) := by simp [intF, hb]
    have e2 : leftR s.st - 8 = ((intF s).2.left : Int) := by
      have g1 := st_left hs a1
      have g2 := st_left (s := (someF 8 s).2) hok a2
      rw [hb] at h1
      rw [h1] at g2
      simp at g2
      show leftR s.st - 8 = ((someF 8 s).2.left : Int)
      rw [leftR, show s.st.1 = 0 from a1, if_pos rfl]
      omega
    rw [e2]
    simp only [if_true, if_pos hbad]
    by_cases hc : (intF s).1 < 0 ∨ m < (intF s).1 ∨ ((intF s).2.left : Int) < (intF s).1
    · have hg : (countG m ((intF s).2.left : Int) (someF 8 s).1.1).2 = false := by
        cases hx : (countG m ((intF s).2.left : Int) (someF 8 s).1.1).2 with
        | false => rfl
        | true => simp [countG] at hx; rw [e1] at hc; omega
      rw [if_pos hc, hg]
      exact ⟨rfl, spoil_st _, hok⟩
    · have hg : (countG m ((intF s).2.left : Int) (someF 8 s).1.1).2 = true := by
        rw [e1] at hc
        simp [countG]
        omega
      rw [if_neg hc, hg]
      exact ⟨e1, rfl, hok⟩
theorem sim_end (s : Rf) (hs : s.ok) : endF s = endR s.st := by
  obtain ⟨b, p, e⟩ := s
  obtain ⟨h1, h2⟩ := hs
  dsimp only at h1 h2
  by_cases he : e = 0
  · subst he
    simp [endF, endR, Rf.st]
    by_cases hp : p < b.length
    · rw [if_pos hp, if_neg (by omega)]
    · rw [if_neg hp, if_pos (by omega)]
  · simp [endF, endR, Rf.st, he]
theorem sim_new (b : List UInt8) (hb : b.length ≤ 100000000) : (newF b).st = newR b ∧ (newF b).ok := by
  unfold newF newR
  split
  · exact ⟨by simp [Rf.st], by simp [Rf.ok]⟩
  · exact ⟨by simp [Rf.st], by simp [Rf.ok]; omega⟩
end Go.Proofs.Ytkdbedbefojieaa

namespace Go.Proofs.Ytkdbedbefojieaa
set_option linter.unusedVariables false
set_option linter.unusedSimpArgs false
set_option maxHeartbeats 8000000
open Go.RowKit
set_option maxRecDepth 100000
theorem dnew_ac (b : List UInt8) (hb : b.length ≤ 100000000) : AC Try.prog 70 [bs none b] [] (fun v bs' => v = .bp 0 0 0 ∧ bs' = [fB (newF b)]) := by
  by_cases h : 65536 < b.length
  · have e : newF b = ⟨[], 0, 3⟩ := by simp [newF, h]
    rw [e]
    refine AC.N Try.func70 Try.ntmps70 ?_
    intro X
    simp only [nx, Nat.reduceAdd, Nat.reduceSub, BEq.rfl]
    repeat' (first
      | ((first
      | ((with_reducible apply AP.k_any); first
               | refine AP.S ?_
        )
      
      )
        <;> (try simp only [nx, Nat.reduceAdd, Nat.reduceSub, BEq.rfl]))
      | ((with_reducible apply AP.k_nil); first
          | (refine AP.nil (hQ' _ ?_); clear hQ' Q')
          | refine AP.nil ?_)
      | ((with_reducible apply CP.k_reg); refine cp_regG fun Q' hQ' => ?_)
        | (with_reducible apply CP.k_reg1; refine cp_region ?_)
        | ((with_reducible apply CP.k_cond); first | refine cp_condT rfl ?_ | refine cp_condF rfl ?_ | refine cp_cond rfl (fun hc => ?_) (fun hc => ?_))
        | refine CP.go ?_
        | (simp only [List.append_eq, List.cons_append, List.nil_append]))
    · (exact RetQ.A [(0, 1)] (by exact ⟨rfl, rfl⟩))
    · exfalso; simp at *; omega
  · have e : newF b = ⟨b, 0, 0⟩ := by simp [newF, h]
    rw [e]
    refine AC.N Try.func70 Try.ntmps70 ?_
    intro X
    simp only [nx, Nat.reduceAdd, Nat.reduceSub, BEq.rfl]
    repeat' (first
      | ((first
      | ((with_reducible apply AP.k_any); first
               | refine AP.S ?_
        )
      
      )
        <;> (try simp only [nx, Nat.reduceAdd, Nat.reduceSub, BEq.rfl]))
      | ((with_reducible apply AP.k_nil); first
          | (refine AP.nil (hQ' _ ?_); clear hQ' Q')
          | refine AP.nil ?_)
      | ((with_reducible apply CP.k_reg); refine cp_regG fun Q' hQ' => ?_)
        | (with_reducible apply CP.k_reg1; refine cp_region ?_)
        | ((with_reducible apply CP.k_cond); first | refine cp_condT rfl ?_ | refine cp_condF rfl ?_ | refine cp_cond rfl (fun hc => ?_) (fun hc => ?_))
        | refine CP.go ?_
        | (simp only [List.append_eq, List.cons_append, List.nil_append]))
    · exfalso; simp at *; omega
    · (exact RetQ.A [(0, 1)] (by exact ⟨rfl, rfl⟩))
theorem dbyte_ac (s : Rf) (hs : s.ok) : AC Try.prog 71 [.bp 0 0 0] [fB s] (fun v bs' => v = U (byteF s).1 ∧ bs' = [fB (byteF s).2]) := by
  have h := some_ac 1 s hs (by omega)
  have hl := someF_len (n := 1) hs
  unfold byteF
  generalize someF 1 s = r at h hl ⊢
  obtain ⟨⟨l, o⟩, s'⟩ := r
  dsimp only at h hl ⊢
  cases o with
  | false =>
    simp only [Bool.false_eq_true, if_false]
    refine AC.N Try.func71 Try.ntmps71 ?_
    intro X
    simp only [nx, Nat.reduceAdd, Nat.reduceSub, BEq.rfl]
    repeat' (first
      | ((first
      | ((with_reducible apply AP.k_any); first
               | refine AP.S ?_
               | refine AP.E ?_
        )
      | ((with_reducible apply AP.k_any); refine AP.CB [(0, 0)] 0 (h) ?_)
      )
        <;> (try simp only [nx, Nat.reduceAdd, Nat.reduceSub, BEq.rfl]))
      | ((with_reducible apply AP.k_nil); first
          | (refine AP.nil (hQ' _ ?_); clear hQ' Q')
          | refine AP.nil ?_)
      | ((with_reducible apply CP.k_reg); refine cp_regG fun Q' hQ' => ?_)
        | (with_reducible apply CP.k_reg1; refine cp_region ?_)
        | ((with_reducible apply CP.k_cond); first | refine cp_condT rfl ?_ | refine cp_condF rfl ?_ | refine cp_cond rfl (fun hc => ?_) (fun hc => ?_))
        | refine CP.go ?_
        | (simp only [List.append_eq, List.cons_append, List.nil_append]))
    (exact RetQ.A [(0, 0)] (by exact ⟨rfl, rfl⟩))
  | true =>
    obtain ⟨x, rfl⟩ := len1 (hl rfl)
    simp only [if_true, List.headD_cons]
    refine AC.N Try.func71 Try.ntmps71 ?_
    intro X
    simp only [nx, Nat.reduceAdd, Nat.reduceSub, BEq.rfl]
    repeat' (first
      | ((first
      | ((with_reducible apply AP.k_any); first
               | refine AP.S ?_
               | refine AP.E ?_
        )
      | ((with_reducible apply AP.k_any); refine AP.CB [(0, 0)] 0 (h) ?_)
      )
        <;> (try simp only [nx, Nat.reduceAdd, Nat.reduceSub, BEq.rfl]))
      | ((with_reducible apply AP.k_nil); first
          | (refine AP.nil (hQ' _ ?_); clear hQ' Q')
          | refine AP.nil ?_)
      | ((with_reducible apply CP.k_reg); refine cp_regG fun Q' hQ' => ?_)
        | (with_reducible apply CP.k_reg1; refine cp_region ?_)
        | ((with_reducible apply CP.k_cond); first | refine cp_condT rfl ?_ | refine cp_condF rfl ?_ | refine cp_cond rfl (fun hc => ?_) (fun hc => ?_))
        | refine CP.go ?_
        | (simp only [List.append_eq, List.cons_append, List.nil_append]))
    (exact RetQ.A [(0, 0)] (by exact ⟨rfl, rfl⟩))
theorem dintR_ac (s : Rf) (hs : s.ok) : AC Try.prog 73 [.bp 0 0 0] [fB s] (fun v bs' => v = I (intF s).1 ∧ bs' = [fB (intF s).2]) := by
  have h := some_ac 8 s hs (by omega)
  have hl := someF_len (n := 8) hs
  unfold intF
  generalize someF 8 s = r at h hl ⊢
  obtain ⟨⟨l, o⟩, s'⟩ := r
  dsimp only at h hl ⊢
  cases o with
  | false =>
    simp only [Bool.false_eq_true, if_false]
    refine AC.N Try.func73 Try.ntmps73 ?_
    intro X
    simp only [nx, Nat.reduceAdd, Nat.reduceSub, BEq.rfl]
    repeat' (first
      | ((first
      | ((with_reducible apply AP.k_any); first
               | refine AP.S ?_
        )
      | ((with_reducible apply AP.k_any); refine AP.CB [(0, 0)] 0 (h) ?_)
      )
        <;> (try simp only [nx, Nat.reduceAdd, Nat.reduceSub, BEq.rfl]))
      | ((with_reducible apply AP.k_nil); first
          | (refine AP.nil (hQ' _ ?_); clear hQ' Q')
          | refine AP.nil ?_)
      | ((with_reducible apply CP.k_reg); refine cp_regG fun Q' hQ' => ?_)
        | (with_reducible apply CP.k_reg1; refine cp_region ?_)
        | ((with_reducible apply CP.k_cond); first | refine cp_condT rfl ?_ | refine cp_condF rfl ?_ | refine cp_cond rfl (fun hc => ?_) (fun hc => ?_))
        | refine CP.go ?_
        | (simp only [List.append_eq, List.cons_append, List.nil_append]))
    (exact RetQ.A [(0, 0)] (by exact ⟨rfl, rfl⟩))
  | true =>
    have hd := dload_ac l 8 (by omega) (hl rfl)
    simp only [if_true]
    refine AC.N Try.func73 Try.ntmps73 ?_
    intro X
    simp only [nx, Nat.reduceAdd, Nat.reduceSub, BEq.rfl]
    repeat' (first
      | ((first
      | ((with_reducible apply AP.k_any); first
               | refine AP.S ?_
        )
      | ((with_reducible apply AP.k_any); refine AP.CB [(0, 0)] 0 (h) ?_)
        | ((with_reducible apply AP.k_any); refine AP.C (hd) ?_)
      )
        <;> (try simp only [nx, Nat.reduceAdd, Nat.reduceSub, BEq.rfl]))
      | ((with_reducible apply AP.k_nil); first
          | (refine AP.nil (hQ' _ ?_); clear hQ' Q')
          | refine AP.nil ?_)
      | ((with_reducible apply CP.k_reg); refine cp_regG fun Q' hQ' => ?_)
        | (with_reducible apply CP.k_reg1; refine cp_region ?_)
        | ((with_reducible apply CP.k_cond); first | refine cp_condT rfl ?_ | refine cp_condF rfl ?_ | refine cp_cond rfl (fun hc => ?_) (fun hc => ?_))
        | refine CP.go ?_
        | (simp only [List.append_eq, List.cons_append, List.nil_append]))
    (exact RetQ.A [(0, 0)] (by exact ⟨rfl, rfl⟩))
theorem dflagR_ac (s : Rf) (hs : s.ok) : AC Try.prog 74 [.bp 0 0 0] [fB s] (fun v bs' => v = B (flagF s).1 ∧ bs' = [fB (flagF s).2]) := by
  have h := dbyte_ac s hs
  unfold flagF
  generalize byteF s = r at h ⊢
  obtain ⟨x, s'⟩ := r
  dsimp only at h ⊢
  have e2 : ((x.toNat : Int) == 1) = (x == 1) := by
    rw [Bool.eq_iff_iff]; simp [← UInt8.toNat_inj]; omega
  by_cases h1 : 1 < x.toNat
  · rw [if_pos h1]
    refine AC.N Try.func74 Try.ntmps74 ?_
    intro X
    simp only [nx, Nat.reduceAdd, Nat.reduceSub, BEq.rfl]
    repeat' (first
      | ((first
      | ((with_reducible apply AP.k_any); first
               | refine AP.S ?_
               | (refine AP.V (fun c hnil => ?_); simp only [nz])
        )
      | ((with_reducible apply AP.k_any); refine AP.CB [(0, 0)] 0 (h) ?_)
      )
        <;> (try simp only [nx, Nat.reduceAdd, Nat.reduceSub, BEq.rfl]))
      | ((with_reducible apply AP.k_nil); first
          | (refine AP.nil (hQ' _ ?_); clear hQ' Q')
          | refine AP.nil ?_)
      | ((with_reducible apply CP.k_reg); refine cp_regG fun Q' hQ' => ?_)
        | (with_reducible apply CP.k_reg1; refine cp_region ?_)
        | ((with_reducible apply CP.k_cond); first | refine cp_condT rfl ?_ | refine cp_condF rfl ?_ | refine cp_cond rfl (fun hc => ?_) (fun hc => ?_))
        | refine CP.go ?_
        | (simp only [List.append_eq, List.cons_append, List.nil_append]))
    · (refine RetQ.B [(0, 0)] ?_; (try dsimp only [resV, List.getD_cons_succ, List.getD_cons_zero]); (exact ⟨congrArg B (by rw [Bool.eq_iff_iff]; simp [← UInt8.toNat_inj]; try omega), rfl⟩))
    · exfalso; simp at *; omega
  · rw [if_neg h1]
    refine AC.N Try.func74 Try.ntmps74 ?_
    intro X
    simp only [nx, Nat.reduceAdd, Nat.reduceSub, BEq.rfl]
    repeat' (first
      | ((first
      | ((with_reducible apply AP.k_any); first
               | refine AP.S ?_
               | (refine AP.V (fun c hnil => ?_); simp only [nz])
        )
      | ((with_reducible apply AP.k_any); refine AP.CB [(0, 0)] 0 (h) ?_)
      )
        <;> (try simp only [nx, Nat.reduceAdd, Nat.reduceSub, BEq.rfl]))
      | ((with_reducible apply AP.k_nil); first
          | (refine AP.nil (hQ' _ ?_); clear hQ' Q')
          | refine AP.nil ?_)
      | ((with_reducible apply CP.k_reg); refine cp_regG fun Q' hQ' => ?_)
        | (with_reducible apply CP.k_reg1; refine cp_region ?_)
        | ((with_reducible apply CP.k_cond); first | refine cp_condT rfl ?_ | refine cp_condF rfl ?_ | refine cp_cond rfl (fun hc => ?_) (fun hc => ?_))
        | refine CP.go ?_
        | (simp only [List.append_eq, List.cons_append, List.nil_append]))
    · exfalso; simp at *; omega
    · (refine RetQ.B [(0, 0)] ?_; (try dsimp only [resV, List.getD_cons_succ, List.getD_cons_zero]); (exact ⟨congrArg B (by rw [Bool.eq_iff_iff]; simp [← UInt8.toNat_inj]; try omega), rfl⟩))
theorem dbytesR_ac (s : Rf) (hs : s.ok) : AC Try.prog 126 [.bp 0 0 0] [fB s] (fun v bs' => v = bs none (bytesF s).1 ∧ bs' = [fB (bytesF s).2]) := by
  have h := some_ac 4 s hs (by omega)
  have hl := someF_len (n := 4) hs
  have hok := someF_ok (n := 4) hs
  unfold bytesF
  generalize someF 4 s = r at h hl hok ⊢
  obtain ⟨⟨l, o⟩, s'⟩ := r
  dsimp only at h hl hok ⊢
  cases o with
  | false =>
    simp only [Bool.false_eq_true, if_false]
    refine AC.N Try.func126 Try.ntmps126 ?_
    intro X
    simp only [nx, Nat.reduceAdd, Nat.reduceSub, BEq.rfl]
    repeat' (first
      | ((first
      | ((with_reducible apply AP.k_any); first
               | refine AP.S ?_
        )
      | ((with_reducible apply AP.k_any); refine AP.CB [(0, 0)] 0 (h) ?_)
      )
        <;> (try simp only [nx, Nat.reduceAdd, Nat.reduceSub, BEq.rfl]))
      | ((with_reducible apply AP.k_nil); first
          | (refine AP.nil (hQ' _ ?_); clear hQ' Q')
          | refine AP.nil ?_)
      | ((with_reducible apply CP.k_reg); refine cp_regG fun Q' hQ' => ?_)
        | (with_reducible apply CP.k_reg1; refine cp_region ?_)
        | ((with_reducible apply CP.k_cond); first | refine cp_condT rfl ?_ | refine cp_condF rfl ?_ | refine cp_cond rfl (fun hc => ?_) (fun hc => ?_))
        | refine CP.go ?_
        | (simp only [List.append_eq, List.cons_append, List.nil_append]))
    (exact RetQ.A [(0, 0)] (by exact ⟨rfl, rfl⟩))
  | true =>
    have hd := dload_ac l 4 (by omega) (hl rfl)
    have hlt := beN_lt l
    rw [hl rfl] at hlt
    simp only [if_true]
    by_cases hn : 65536 < beN l
    · simp only [if_pos hn]
      refine AC.N Try.func126 Try.ntmps126 ?_
      intro X
      simp only [nx, Nat.reduceAdd, Nat.reduceSub, BEq.rfl]
      repeat' (first
        | ((first
        | ((with_reducible apply AP.k_any); first
                 | refine AP.S ?_
          )
        | ((with_reducible apply AP.k_any); refine AP.CB [(0, 0)] 0 (h) ?_)
            | ((with_reducible apply AP.k_any); refine AP.C (hd) ?_)
        )
          <;> (try simp only [nx, Nat.reduceAdd, Nat.reduceSub, BEq.rfl]))
        | ((with_reducible apply AP.k_nil); first
            | (refine AP.nil (hQ' _ ?_); clear hQ' Q')
            | refine AP.nil ?_)
        | ((with_reducible apply CP.k_reg); refine cp_regG fun Q' hQ' => ?_)
          | (with_reducible apply CP.k_reg1; refine cp_region ?_)
          | ((with_reducible apply CP.k_cond); first | refine cp_condT rfl ?_ | refine cp_condF rfl ?_ | refine cp_cond rfl (fun hc => ?_) (fun hc => ?_))
          | refine CP.go ?_
          | (simp only [List.append_eq, List.cons_append, List.nil_append]))
      · (exact RetQ.A [(0, 0)] (by exact ⟨rfl, rfl⟩))
      · exfalso; simp at *; omega
    · simp only [if_neg hn]
      have h4 := some_ac (beN l) s' hok (by omega)
      have hw : IntKind.i64.wrap (beN l : Int) = (beN l : Int) := wrap_i64 (by omega) (by omega)
      rw [← hw] at h4
      refine AC.N Try.func126 Try.ntmps126 ?_
      intro X
      simp only [nx, Nat.reduceAdd, Nat.reduceSub, BEq.rfl]
      repeat' (first
        | ((first
        | ((with_reducible apply AP.k_any); first
                 | refine AP.S ?_
          )
        | ((with_reducible apply AP.k_any); refine AP.CB [(0, 0)] 0 (h) ?_)
            | ((with_reducible apply AP.k_any); refine AP.C (hd) ?_)
            | ((with_reducible apply AP.k_any); refine AP.CB [(0, 0)] 0 (h4) ?_)
        )
          <;> (try simp only [nx, Nat.reduceAdd, Nat.reduceSub, BEq.rfl]))
        | ((with_reducible apply AP.k_nil); first
            | (refine AP.nil (hQ' _ ?_); clear hQ' Q')
            | refine AP.nil ?_)
        | ((with_reducible apply CP.k_reg); refine cp_regG fun Q' hQ' => ?_)
          | (with_reducible apply CP.k_reg1; refine cp_region ?_)
          | ((with_reducible apply CP.k_cond); first | refine cp_condT rfl ?_ | refine cp_condF rfl ?_ | refine cp_cond rfl (fun hc => ?_) (fun hc => ?_))
          | refine CP.go ?_
          | (simp only [List.append_eq, List.cons_append, List.nil_append]))
      · exfalso; simp at *; omega
      · (exact RetQ.A [(0, 0)] (by exact ⟨rfl, rfl⟩))
theorem dend_ac (s : Rf) : AC Try.prog 76 [.bp 0 0 0] [fB s] (fun v bs' => v = I (endF s) ∧ bs' = [fB s]) := by
  refine AC.N Try.func76 Try.ntmps76 ?_
  intro X
  simp only [nx, Nat.reduceAdd, Nat.reduceSub, BEq.rfl]
  repeat' (first
    | ((first
    | ((with_reducible apply AP.k_any); first
             | refine AP.S ?_
             | (refine AP.Y ?_; dsimp only) | refine AP.G (fun hg => ?_) (fun hg => ?_)
             | (refine AP.V (fun c hnil => ?_); simp only [nz])
      )
    
    | ((with_reducible apply AQ.k_any); first
                    | refine AQ.S ?_
                    | (refine AQ.Y ?_; dsimp only) | refine AQ.G (fun hg => ?_) (fun hg => ?_)
      )
    )
      <;> (try simp only [nx, Nat.reduceAdd, Nat.reduceSub, BEq.rfl]))
    | ((with_reducible apply AP.k_nil); first
        | (refine AP.nil (hQ' _ ?_); clear hQ' Q')
        | refine AP.nil ?_)
    | ((with_reducible apply AQ.k_nil); first | (refine AQ.nil (hQ' _ ?_); clear hQ' Q') | refine AQ.nil ?_)
    | ((with_reducible apply CP.k_drw); refine cp_drw (by kernel_rfl) (by kernel_rfl) fun Q' hQ' => ?_)
    | ((with_reducible apply CP.k_drw1); refine cp_draw (by kernel_rfl) (by kernel_rfl) ?_)
    | ((with_reducible apply CP.k_reg); refine cp_regG fun Q' hQ' => ?_)
      | (with_reducible apply CP.k_reg1; refine cp_region ?_)
      | ((with_reducible apply CP.k_cond); first | refine cp_condT rfl ?_ | refine cp_condF rfl ?_ | refine cp_cond rfl (fun hc => ?_) (fun hc => ?_))
      | refine CP.go ?_
      | (simp only [List.append_eq, List.cons_append, List.nil_append]))
  all_goals (refine RetQ.B [(0, 0)] ?_; (try dsimp only [resV, List.getD_cons_succ, List.getD_cons_zero]); ((refine ⟨?_, rfl⟩; simp at *; simp [endF, *]; try omega)))
theorem dcount_ac (m : Int) (s : Rf) (hs : s.ok) : AC Try.prog 110 [.bp 0 0 0, I m] [fB s] (fun v bs' => v = I (countF m s).1 ∧ bs' = [fB (countF m s).2]) := by
  have h := dintR_ac s hs
  have hok : (intF s).2.ok := someF_ok hs
  rcases hr : intF s with ⟨n, b, p, e⟩
  rw [hr] at h hok
  obtain ⟨o1, o2⟩ := hok
  dsimp only at h o1 o2
  have hw : IntKind.i64.wrap ((b.length : Int) - p) = ((b.length - p : Nat) : Int) := by rw [wrap_i64 (by omega) (by omega)]; omega
  by_cases he : e = 0
  · subst he
    by_cases hc0 : n < 0 ∨ m < n ∨ ((b.length - p : Nat) : Int) < n
    · have e1 : countF m s = (0, ⟨b, p, 40⟩) := by unfold countF; rw [hr]; dsimp only [Rf.left, Rf.spoil]; rw [if_pos rfl]; exact if_pos hc0
      rw [e1]
      refine AC.N Try.func110 Try.ntmps110 ?_
      intro X
      simp only [nx, Nat.reduceAdd, Nat.reduceSub, BEq.rfl]
      repeat' (first
        | ((first
        | ((with_reducible apply AP.k_any); first
                 | refine AP.S ?_
                 | (refine AP.Y ?_; dsimp only) | refine AP.G (fun hg => ?_) (fun hg => ?_)
                 | (refine AP.V (fun c hnil => ?_); simp only [nz])
          )
        | ((with_reducible apply AP.k_any); refine AP.CB [(0, 0)] 0 (h) ?_)
        | ((with_reducible apply AQ.k_any); first
                        | refine AQ.S ?_
                        | (refine AQ.Y ?_; dsimp only) | refine AQ.G (fun hg => ?_) (fun hg => ?_)
          )
        )
          <;> (try simp only [nx, Nat.reduceAdd, Nat.reduceSub, BEq.rfl]))
        | ((with_reducible apply AP.k_nil); first
            | (refine AP.nil (hQ' _ ?_); clear hQ' Q')
            | refine AP.nil ?_)
        | ((with_reducible apply AQ.k_nil); first | (refine AQ.nil (hQ' _ ?_); clear hQ' Q') | refine AQ.nil ?_)
        | ((with_reducible apply CP.k_drw); refine cp_drw (by kernel_rfl) (by kernel_rfl) fun Q' hQ' => ?_)
        | ((with_reducible apply CP.k_drw1); refine cp_draw (by kernel_rfl) (by kernel_rfl) ?_)
        | ((with_reducible apply CP.k_reg); refine cp_regG fun Q' hQ' => ?_)
          | (with_reducible apply CP.k_reg1; refine cp_region ?_)
          | ((with_reducible apply CP.k_cond); first | refine cp_condT rfl ?_ | refine cp_condF rfl ?_ | refine cp_cond rfl (fun hc => ?_) (fun hc => ?_))
          | refine CP.go ?_
          | (simp only [List.append_eq, List.cons_append, List.nil_append]))
      all_goals first
        | (exact RetQ.A [(0, 0)] (by exact ⟨rfl, rfl⟩))
        | (exfalso; simp [hw] at *; done)
        | (exfalso; simp [hw] at *; omega)
    · have e1 : countF m s = (n, ⟨b, p, 0⟩) := by unfold countF; rw [hr]; dsimp only [Rf.left, Rf.spoil]; rw [if_pos rfl]; exact if_neg hc0
      rw [e1]
      refine AC.N Try.func110 Try.ntmps110 ?_
      intro X
      simp only [nx, Nat.reduceAdd, Nat.reduceSub, BEq.rfl]
      repeat' (first
        | ((first
        | ((with_reducible apply AP.k_any); first
                 | refine AP.S ?_
                 | (refine AP.Y ?_; dsimp only) | refine AP.G (fun hg => ?_) (fun hg => ?_)
                 | (refine AP.V (fun c hnil => ?_); simp only [nz])
          )
        | ((with_reducible apply AP.k_any); refine AP.CB [(0, 0)] 0 (h) ?_)
        | ((with_reducible apply AQ.k_any); first
                        | refine AQ.S ?_
                        | (refine AQ.Y ?_; dsimp only) | refine AQ.G (fun hg => ?_) (fun hg => ?_)
          )
        )
          <;> (try simp only [nx, Nat.reduceAdd, Nat.reduceSub, BEq.rfl]))
        | ((with_reducible apply AP.k_nil); first
            | (refine AP.nil (hQ' _ ?_); clear hQ' Q')
            | refine AP.nil ?_)
        | ((with_reducible apply AQ.k_nil); first | (refine AQ.nil (hQ' _ ?_); clear hQ' Q') | refine AQ.nil ?_)
        | ((with_reducible apply CP.k_drw); refine cp_drw (by kernel_rfl) (by kernel_rfl) fun Q' hQ' => ?_)
        | ((with_reducible apply CP.k_drw1); refine cp_draw (by kernel_rfl) (by kernel_rfl) ?_)
        | ((with_reducible apply CP.k_reg); refine cp_regG fun Q' hQ' => ?_)
          | (with_reducible apply CP.k_reg1; refine cp_region ?_)
          | ((with_reducible apply CP.k_cond); first | refine cp_condT rfl ?_ | refine cp_condF rfl ?_ | refine cp_cond rfl (fun hc => ?_) (fun hc => ?_))
          | refine CP.go ?_
          | (simp only [List.append_eq, List.cons_append, List.nil_append]))
      all_goals first
        | (exact RetQ.A [(0, 0)] (by exact ⟨rfl, rfl⟩))
        | (exfalso; simp [hw] at *; done)
        | (exfalso; simp [hw] at *; omega)
  · have e1 : countF m s = (0, ⟨b, p, e⟩) := by unfold countF; rw [hr]; exact if_neg he
    rw [e1]
    refine AC.N Try.func110 Try.ntmps110 ?_
    intro X
    simp only [nx, Nat.reduceAdd, Nat.reduceSub, BEq.rfl]
    repeat' (first
      | ((first
      | ((with_reducible apply AP.k_any); first
               | refine AP.S ?_
               | (refine AP.Y ?_; dsimp only) | refine AP.G (fun hg => ?_) (fun hg => ?_)
               | (refine AP.V (fun c hnil => ?_); simp only [nz])
        )
      | ((with_reducible apply AP.k_any); refine AP.CB [(0, 0)] 0 (h) ?_)
      | ((with_reducible apply AQ.k_any); first
                      | refine AQ.S ?_
                      | (refine AQ.Y ?_; dsimp only) | refine AQ.G (fun hg => ?_) (fun hg => ?_)
        )
      )
        <;> (try simp only [nx, Nat.reduceAdd, Nat.reduceSub, BEq.rfl]))
      | ((with_reducible apply AP.k_nil); first
          | (refine AP.nil (hQ' _ ?_); clear hQ' Q')
          | refine AP.nil ?_)
      | ((with_reducible apply AQ.k_nil); first | (refine AQ.nil (hQ' _ ?_); clear hQ' Q') | refine AQ.nil ?_)
      | ((with_reducible apply CP.k_drw); refine cp_drw (by kernel_rfl) (by kernel_rfl) fun Q' hQ' => ?_)
      | ((with_reducible apply CP.k_drw1); refine cp_draw (by kernel_rfl) (by kernel_rfl) ?_)
      | ((with_reducible apply CP.k_reg); refine cp_regG fun Q' hQ' => ?_)
        | (with_reducible apply CP.k_reg1; refine cp_region ?_)
        | ((with_reducible apply CP.k_cond); first | refine cp_condT rfl ?_ | refine cp_condF rfl ?_ | refine cp_cond rfl (fun hc => ?_) (fun hc => ?_))
        | refine CP.go ?_
        | (simp only [List.append_eq, List.cons_append, List.nil_append]))
    all_goals first
      | (exact RetQ.A [(0, 0)] (by exact ⟨rfl, rfl⟩))
      | (exfalso; simp at *; omega)
end Go.Proofs.Ytkdbedbefojieaa

namespace Go.Proofs.Ytkdbedbefojieaa
set_option linter.unusedVariables false
set_option linter.unusedSimpArgs false
set_option maxHeartbeats 8000000
open Go.RowKit
set_option maxRecDepth 100000
def restRF (pos : Int) (s : Rf) : Entry × Rf :=
  (⟨pos, (intF s).1, (intF (intF s).2).1, (intF (intF (intF s).2).2).1, (bytesF (intF (intF (intF s).2).2).2).1⟩, (bytesF (intF (intF (intF s).2).2).2).2)
def entryRF (s : Rf) : Entry × Rf := restRF (intF s).1 (intF s).2
def memRF (s : Rf) : Member × Rf := (⟨(intF s).1, (intF (intF s).2).1, (flagF (intF (intF s).2).2).1⟩, (flagF (intF (intF s).2).2).2)
def memsRF : Nat → Rf → List Member × Rf
  | 0, s => ([], s)
  | n + 1, s => ((memRF s).1 :: (memsRF n (memRF s).2).1, (memsRF n (memRF s).2).2)
def configRF (s : Rf) : Config × Rf :=
  (⟨(intF s).1, (memsRF (countF 5 (intF s).2).1.toNat (countF 5 (intF s).2).2).1⟩, (memsRF (countF 5 (intF s).2).1.toNat (countF 5 (intF s).2).2).2)
theorem sim_rest (pos : Int) : Sim (restRF pos) (restR pos) := fun s hs => by
  obtain ⟨a1, a2, a3⟩ := sim_int s hs
  obtain ⟨b1, b2, b3⟩ := sim_int _ a3
  obtain ⟨c1, c2, c3⟩ := sim_int _ b3
  obtain ⟨d1, d2, d3⟩ := sim_bytes _ c3
  unfold restRF restR
  refine ⟨?_, ?_, d3⟩
  · dsimp only
    rw [a1, b1, a2, c1, b2, a2, d1, c2, b2, a2]
  · dsimp only
    rw [d2, c2, b2, a2]
theorem sim_entry : Sim entryRF entryR := fun s hs => by
  obtain ⟨a1, a2, a3⟩ := sim_int s hs
  obtain ⟨b1, b2, b3⟩ := sim_rest (intF s).1 _ a3
  unfold entryRF entryR
  rw [a1, a2] at b1 b2
  refine ⟨?_, ?_, b3⟩
  · rw [a1]; exact b1
  · rw [a1]; exact b2
theorem sim_mem : Sim memRF memR := fun s hs => by
  obtain ⟨a1, a2, a3⟩ := sim_int s hs
  obtain ⟨b1, b2, b3⟩ := sim_int _ a3
  obtain ⟨c1, c2, c3⟩ := sim_flag _ b3
  unfold memRF memR
  refine ⟨?_, ?_, c3⟩
  · dsimp only
    rw [a1, b1, a2, c1, b2, a2]
  · dsimp only
    rw [c2, b2, a2]
theorem sim_mems : ∀ n, Sim (memsRF n) (memsR n)
  | 0 => fun _ hs => ⟨rfl, rfl, hs⟩
  | n + 1 => fun s hs => by
    obtain ⟨a1, a2, a3⟩ := sim_mem s hs
    obtain ⟨b1, b2, b3⟩ := sim_mems n _ a3
    unfold memsRF memsR
    refine ⟨?_, ?_, b3⟩
    · dsimp only
      rw [a1, b1, a2]
    · dsimp only
      rw [b2, a2]
theorem sim_config : Sim configRF configR := fun s hs => by
  obtain ⟨a1, a2, a3⟩ := sim_int s hs
  obtain ⟨b1, b2, b3⟩ := sim_count 5 _ a3
  obtain ⟨c1, c2, c3⟩ := sim_mems (countF 5 (intF s).2).1.toNat _ b3
  unfold configRF configR
  refine ⟨?_, ?_, c3⟩
  · dsimp only
    rw [c1, a1, b1, b2, a2]
  · dsimp only
    rw [c2, b1, b2, a2]
theorem memsRF_snoc : ∀ (n : Nat) (s : Rf), (memsRF (n + 1) s).1 = (memsRF n s).1 ++ [(memRF (memsRF n s).2).1] ∧ (memsRF (n + 1) s).2 = (memRF (memsRF n s).2).2
  | 0, s => ⟨rfl, rfl⟩
  | n + 1, s => by
    have h := memsRF_snoc n (memRF s).2
    exact ⟨by show (memRF s).1 :: (memsRF (n + 1) (memRF s).2).1 = _; rw [h.1]; rfl, h.2⟩
theorem memsRF_len : ∀ (n : Nat) (s : Rf), (memsRF n s).1.length = n
  | 0, _ => rfl
  | n + 1, s => by show (_ :: _).length = _; rw [List.length_cons, memsRF_len n]
theorem dtakeRest_ac (pos : Int) (s : Rf) (hs : s.ok) : AC Try.prog 112 [.bp 0 0 0, I pos] [fB s] (fun v bs => v = .ag (eE none (restRF pos s).1) ∧ bs = [fB (restRF pos s).2]) := by
  have h1 := (sim_int s hs).2.2
  have h2 := (sim_int _ h1).2.2
  have h3 := (sim_int _ h2).2.2
  refine AC.N Try.func112 Try.ntmps112 ?_
  intro X
  simp only [nx, Nat.reduceAdd, Nat.reduceSub, BEq.rfl]
  repeat' (first
    | ((first
    | ((with_reducible apply AP.k_any); first
             | refine AP.S ?_
      )
    | ((with_reducible apply AP.k_any); refine AP.CB [(0, 0)] 0 (dbytesR_ac _ h3) ?_)
    | ((with_reducible apply AP.k_any); refine AP.CB [(0, 0)] 0 (dintR_ac (intF (intF s).2).2 h2) ?_)
    | ((with_reducible apply AP.k_any); refine AP.CB [(0, 0)] 0 (dintR_ac (intF s).2 h1) ?_)
    | ((with_reducible apply AP.k_any); refine AP.CB [(0, 0)] 0 (dintR_ac s hs) ?_)
    )
      <;> (try simp only [nx, Nat.reduceAdd, Nat.reduceSub, BEq.rfl]))
    | ((with_reducible apply AP.k_nil); first
        | (refine AP.nil (hQ' _ ?_); clear hQ' Q')
        | refine AP.nil ?_)
    | ((with_reducible apply CP.k_reg); refine cp_regG fun Q' hQ' => ?_)
      | (with_reducible apply CP.k_reg1; refine cp_region ?_)
      | ((with_reducible apply CP.k_cond); first | refine cp_condT rfl ?_ | refine cp_condF rfl ?_ | refine cp_cond rfl (fun hc => ?_) (fun hc => ?_))
      | refine CP.go ?_
      | (simp only [List.append_eq, List.cons_append, List.nil_append]))
  (exact RetQ.A [(0, 0)] (by exact ⟨rfl, rfl⟩))
theorem dtakeEntry_ac (s : Rf) (hs : s.ok) : AC Try.prog 75 [.bp 0 0 0] [fB s] (fun v bs => v = .ag (eE none (entryRF s).1) ∧ bs = [fB (entryRF s).2]) := by
  have h1 := (sim_int s hs).2.2
  refine AC.N Try.func75 Try.ntmps75 ?_
  intro X
  simp only [nx, Nat.reduceAdd, Nat.reduceSub, BEq.rfl]
  repeat' (first
    | ((first
    | ((with_reducible apply AP.k_any); first
             | refine AP.S ?_
      )
    | ((with_reducible apply AP.k_any); refine AP.CB [(0, 0)] 0 (dintR_ac s hs) ?_)
    | ((with_reducible apply AP.k_any); refine AP.CB [(0, 0)] 0 (dtakeRest_ac _ _ h1) ?_)
    )
      <;> (try simp only [nx, Nat.reduceAdd, Nat.reduceSub, BEq.rfl]))
    | ((with_reducible apply AP.k_nil); first
        | (refine AP.nil (hQ' _ ?_); clear hQ' Q')
        | refine AP.nil ?_)
    | ((with_reducible apply CP.k_reg); refine cp_regG fun Q' hQ' => ?_)
      | (with_reducible apply CP.k_reg1; refine cp_region ?_)
      | ((with_reducible apply CP.k_cond); first | refine cp_condT rfl ?_ | refine cp_condF rfl ?_ | refine cp_cond rfl (fun hc => ?_) (fun hc => ?_))
      | refine CP.go ?_
      | (simp only [List.append_eq, List.cons_append, List.nil_append]))
  (exact RetQ.A [(0, 0)] (by exact ⟨rfl, rfl⟩))
theorem dtakeConfig_ac (s : Rf) (hs : s.ok) : AC Try.prog 72 [.bp 0 0 0] [fB s] (fun v bs => v = .ag (eC none (configRF s).1) ∧ bs = [fB (configRF s).2]) := by
  have h1 := (sim_int s hs).2.2
  have h2 := (sim_count 5 _ h1).2.2
  obtain ⟨hc0, hc5⟩ : 0 ≤ (countF 5 (intF s).2).1 ∧ (countF 5 (intF s).2).1 ≤ 5 := by
    rw [(sim_count 5 _ h1).1]
    exact countR_le (by omega)
  refine AC.N Try.func72 Try.ntmps72 ?_
  intro X
  simp only [nx, Nat.reduceAdd, Nat.reduceSub, BEq.rfl]
  repeat' (first
    | ((first
    | ((with_reducible apply AP.k_any); first
             | refine AP.S ?_
      )
    | ((with_reducible apply AP.k_any); refine AP.CB [(0, 0)] 0 (dintR_ac s hs) ?_)
    | ((with_reducible apply AP.k_any); refine AP.CB [(0, 0)] 0 (dcount_ac 5 _ h1) ?_)
    )
      <;> (try simp only [nx, Nat.reduceAdd, Nat.reduceSub, BEq.rfl]))
    | ((with_reducible apply AP.k_nil); first
        | (refine AP.nil (hQ' _ ?_); clear hQ' Q')
        | refine AP.nil ?_)
    | ((with_reducible apply CP.k_reg); refine cp_regG fun Q' hQ' => ?_)
      | (with_reducible apply CP.k_reg1; refine cp_region ?_)
      | ((with_reducible apply CP.k_cond); first | refine cp_condT rfl ?_ | refine cp_condF rfl ?_ | refine cp_cond rfl (fun hc => ?_) (fun hc => ?_))
      | refine CP.go ?_
      | (simp only [List.append_eq, List.cons_append, List.nil_append]))
  refine CP.gh (gh_nilc (j := 2) (u := 1) (off := 1) (e := tM) (k := 3) rfl rfl) ?_
  simp only [nx, Nat.reduceAdd, Nat.reduceSub, BEq.rfl]
  refine CP.gh gh_slot ?_; simp only [nx, Nat.reduceAdd, Nat.reduceSub, BEq.rfl]
  refine CP.gh gh_slot ?_; simp only [nx, Nat.reduceAdd, Nat.reduceSub, BEq.rfl]
  have h0 : (configRF s) = (⟨(intF s).1, (memsRF (countF 5 (intF s).2).1.toNat (countF 5 (intF s).2).2).1⟩, (memsRF (countF 5 (intF s).2).1.toNat (countF 5 (intF s).2).2).2) := rfl
  rw [h0]
  clear h0
  obtain ⟨N, hN⟩ : ∃ N : Nat, (countF 5 (intF s).2).1 = N := ⟨(countF 5 (intF s).2).1.toNat, by omega⟩
  rw [hN] at hc5 ⊢
  rw [Int.toNat_natCast]
  generalize (countF 5 (intF s).2).2 = S0 at h2 ⊢
  refine cp_loopS [5, 6, 12, 13, 14, 15, 16, 17, 18, 19, 20, 21, 22, 23, 24, 25, 26, 27, 28, 29, 30, 31] (fun a : Nat × Nat × Nat × Nat => N - a.1) (fun a => a.1 ≤ N) (fun a => [(5, I a.1)]) (fun a => [(0, ⟨0, fB (memsRF a.1 S0).2⟩), (2, ⟨1, .c 24 [I (intF s).1, .hd 3 a.2.1]⟩), (3, ⟨a.2.1, .r tM 3 ((memsRF a.1 S0).1.map eM)⟩), (4, ⟨a.2.2.1, .x⟩), (5, ⟨a.2.2.2, .x⟩)]) (0, 1, 0, 0) (Nat.zero_le _) (by exact Gh.W) ?_
  rintro ⟨k, u, v, w⟩ hk
  simp only [setT, deT, setB, List.set_cons_succ, List.set_cons_zero]
  dsimp only at hk
  have hS := (sim_mems k S0 h2).2.2
  have hL := memsRF_len k S0
  have hs1 := (memsRF_snoc k S0).1
  have hs2 := (memsRF_snoc k S0).2
  by_cases hlt : k < N
  · have hw : IntKind.i64.wrap ((k : Int) + 1) = ((k + 1 : Nat) : Int) := wrap_i64 (by omega) (by omega)
    generalize hms : memsRF k S0 = ms at hS hL hs1 hs2 ⊢
    obtain ⟨ml, S⟩ := ms
    dsimp only at hS hL hs1 hs2 ⊢
    have g1 := (sim_int S hS).2.2
    have g2 := (sim_int _ g1).2.2
    have hlen : (ml.map eM).length + 1 ≤ 1000000000 := by rw [List.length_map]; omega
    repeat' (first
      | ((first
      | ((with_reducible apply AP.k_any); first
               | refine AP.S ?_
        )
      | ((with_reducible apply AP.k_any); refine AP.CB [(0, 0)] 0 (dintR_ac (intF S).2 g1) ?_)
        | ((with_reducible apply AP.k_any); refine AP.CB [(0, 0)] 0 (dintR_ac S hS) ?_)
        | ((with_reducible apply AP.k_any); refine AP.CB [(0, 0)] 0 (dflagR_ac _ g2) ?_)
      )
        <;> (try simp only [nx, Nat.reduceAdd, Nat.reduceSub, BEq.rfl]))
      | ((with_reducible apply AP.k_nil); first
          | (refine AP.nil (hQ' _ ?_); clear hQ' Q')
          | refine AP.nil ?_)
      | ((with_reducible apply CP.k_reg); refine cp_regG fun Q' hQ' => ?_)
        | (with_reducible apply CP.k_reg1; refine cp_region ?_)
        | ((with_reducible apply CP.k_cond); first | refine cp_condT rfl ?_ | refine cp_condF rfl ?_ | refine cp_cond rfl (fun hc => ?_) (fun hc => ?_))
        | refine CP.go ?_
        | (simp only [List.append_eq, List.cons_append, List.nil_append]))
    · simp only [hw]
      refine ⟨(k + 1, u + 1, v + 1, w + 1), by (dsimp only; omega), by (dsimp only; omega), ?_⟩
      dsimp only
      rw [hs1, hs2, List.map_append, List.map_cons, List.map_nil]
      exact Gh.W
    · exfalso; simp at *; omega
  · obtain rfl : k = N := by omega
    refine CP.gh (gh_fz (b := 3) (u := u) rfl rfl (by (repeat' (first | exact FzC.nil | apply FzC.cons | exact FzV.hd | apply FzV.ag | exact FzV.same))) (by (repeat' (first | exact FzB.nil | apply FzB.c | apply FzB.same | exact FzC.nil | apply FzC.cons | exact FzV.hd | apply FzV.ag | exact FzV.same)))) ?_
    simp only [ro_M]
    repeat' (first
      | ((first
      | ((with_reducible apply AP.k_any); first
               | refine AP.S ?_
        )
      
      )
        <;> (try simp only [nx, Nat.reduceAdd, Nat.reduceSub, BEq.rfl]))
      | ((with_reducible apply AP.k_nil); first
          | (refine AP.nil (hQ' _ ?_); clear hQ' Q')
          | refine AP.nil ?_)
      | ((with_reducible apply CP.k_reg); refine cp_regG fun Q' hQ' => ?_)
        | (with_reducible apply CP.k_reg1; refine cp_region ?_)
        | ((with_reducible apply CP.k_cond); first | refine cp_condT rfl ?_ | refine cp_condF rfl ?_ | refine cp_cond rfl (fun hc => ?_) (fun hc => ?_))
        | refine CP.go ?_
        | (simp only [List.append_eq, List.cons_append, List.nil_append]))
    all_goals first
      | (exfalso; simp at *; done)
      | (exfalso; simp at *; omega)
      | (exact RetQ.A [(0, 0)] (by exact ⟨rfl, rfl⟩))
end Go.Proofs.Ytkdbedbefojieaa

namespace Go.Proofs.Ytkdbedbefojieaa
set_option linter.unusedVariables false
set_option linter.unusedSimpArgs false
set_option maxHeartbeats 8000000
open Go.RowKit
set_option maxRecDepth 100000
def bookRF (s : Rf) : Book × Rf :=
  (⟨(configRF s).1, (intF (configRF s).2).1, (flagF (intF (configRF s).2).2).1, (intF (flagF (intF (configRF s).2).2).2).1⟩, (intF (flagF (intF (configRF s).2).2).2).2)
def recRF (s : Rf) : Record × Rf :=
  if (byteF s).1 = 1 then (⟨1, (bookRF (byteF s).2).1, (flagF (bookRF (byteF s).2).2).1, ent0⟩, (flagF (bookRF (byteF s).2).2).2)
  else if (byteF s).1 = 2 then (⟨2, book0, false, (entryRF (byteF s).2).1⟩, (entryRF (byteF s).2).2)
  else (⟨(byteF s).1, book0, false, ent0⟩, (byteF s).2)
theorem sim_book : Sim bookRF bookR := fun s hs => by
  obtain ⟨a1, a2, a3⟩ := sim_config s hs
  obtain ⟨b1, b2, b3⟩ := sim_int _ a3
  obtain ⟨c1, c2, c3⟩ := sim_flag _ b3
  obtain ⟨d1, d2, d3⟩ := sim_int _ c3
  unfold bookRF bookR
  refine ⟨?_, ?_, d3⟩
  · dsimp only
    rw [a1, b1, a2, c1, b2, a2, d1, c2, b2, a2]
  · dsimp only
    rw [d2, c2, b2, a2]
theorem sim_rec : Sim recRF recR := fun s hs => by
  obtain ⟨a1, a2, a3⟩ := sim_byte s hs
  obtain ⟨b1, b2, b3⟩ := sim_book _ a3
  obtain ⟨c1, c2, c3⟩ := sim_flag _ b3
  obtain ⟨d1, d2, d3⟩ := sim_entry _ a3
  unfold recRF recR
  rw [← a1]
  by_cases h1 : (byteF s).1 = 1
  · rw [if_pos h1, if_pos h1]
    refine ⟨?_, ?_, c3⟩
    · dsimp only
      rw [b1, c1, b2, a2]
    · dsimp only
      rw [c2, b2, a2]
  · rw [if_neg h1, if_neg h1]
    by_cases h2 : (byteF s).1 = 2
    · rw [if_pos h2, if_pos h2]
      refine ⟨?_, ?_, d3⟩
      · dsimp only
        rw [d1, a2]
      · dsimp only
        rw [d2, a2]
    · rw [if_neg h2, if_neg h2]
      exact ⟨rfl, a2, a3⟩
theorem takeS_val_len {n : Int} {st : St} {k : Nat} (h : st.2.length ≤ k) : (takeS ([] : List UInt8) bytesG n st).1.length ≤ k := by
  unfold takeS
  split
  · simp
  · split
    · simp
    · simp only [bytesG, if_true, List.length_take]
      omega
theorem entryR_body {st : St} {k : Nat} (h : st.2.length ≤ k) : (entryR st).1.body.length ≤ k := takeS_val_len (takeS_len (intR_len (intR_len (intR_len (intR_len h)))))
theorem st_len {s : Rf} {k : Nat} (h : s.b.length ≤ k) : s.st.2.length ≤ k := by
  unfold Rf.st
  dsimp only
  split
  · simp; omega
  · simp
theorem parseS_F (b : List UInt8) (hb : b.length ≤ 100000000) : parseS b = if endF (recRF (newF b)).2 = 0 ∧ mayR (recRF (newF b)).1 = true then ((recRF (newF b)).1, 0) else (rec0, 200) := by
  obtain ⟨h1, h2⟩ := sim_new b hb
  obtain ⟨a1, a2, a3⟩ := sim_rec _ h2
  rw [a1, sim_end _ a3, a2, h1]
  rfl
theorem dparse_ac (b : List UInt8) (hb : b.length ≤ 1000000) :
    AC Try.prog 33 [bs none b] [] (fun v bs => v = .tu [.ag (eR (parseS b).1), I (parseS b).2] ∧ bs = []) := by
  obtain ⟨n1, n2⟩ := sim_new b (by omega)
  have a := sim_byte _ n2
  have c := sim_config _ a.2.2
  have c2 := (sim_int _ c.2.2).2.2
  have c3 := (sim_flag _ c2).2.2
  have c4 := (sim_int _ c3).2.2
  have hm : (configRF (byteF (newF b)).2).1.members.length ≤ 5 := by rw [c.1]; exact configR_mem _
  have he : (entryRF (byteF (newF b)).2).1.body.length ≤ 1000000 := by
    rw [(sim_entry _ a.2.2).1, a.2.1]
    refine entryR_body (byteR_len ?_)
    rw [n1]
    exact newR_len hb
  have h1 := a.2.2
  have c1 := c.2.2
  clear a c n1
  refine AC.N Try.func33 Try.ntmps33 ?_
  intro X
  simp only [nx, Nat.reduceAdd, Nat.reduceSub, BEq.rfl]
  repeat' (first
    | ((first
    | ((with_reducible apply AP.k_any); first
             | refine AP.S ?_
             | (refine AP.Y ?_; dsimp only) | refine AP.G (fun hg => ?_) (fun hg => ?_)
      )
    | ((with_reducible apply AP.k_any); refine AP.CB [] 1 (dnew_ac b (by omega)) ?_)
    | ((with_reducible apply AP.k_any); refine AP.CB [(1, 1)] 0 (dbyte_ac (newF b) n2) ?_)
    | ((with_reducible apply AP.k_any); refine AP.CB [(1, 1)] 0 (dtakeConfig_ac _ h1) ?_)
    | ((with_reducible apply AP.k_any); refine AP.CB [(1, 1)] 0 (dintR_ac _ c1) ?_)
    | ((with_reducible apply AP.k_any); refine AP.CB [(1, 1)] 0 (dflagR_ac _ c2) ?_)
    | ((with_reducible apply AP.k_any); refine AP.CB [(1, 1)] 0 (dintR_ac _ c3) ?_)
    | ((with_reducible apply AP.k_any); refine AP.CB [(1, 1)] 0 (dflagR_ac _ c4) ?_)
    | ((with_reducible apply AP.k_any); refine AP.CB [(1, 1)] 0 (dtakeEntry_ac _ h1) ?_)
    )
      <;> (try simp only [nx, Nat.reduceAdd, Nat.reduceSub, BEq.rfl]))
    | ((with_reducible apply AP.k_nil); first
        | (refine AP.nil (hQ' _ ?_); clear hQ' Q')
        | refine AP.nil ?_)
    | ((with_reducible apply CP.k_reg); refine cp_regG fun Q' hQ' => ?_)
      | (with_reducible apply CP.k_reg1; refine cp_region ?_)
      | ((with_reducible apply CP.k_cond); first | refine cp_condT rfl ?_ | refine cp_condF rfl ?_ | refine cp_cond rfl (fun hc => ?_) (fun hc => ?_))
      | refine CP.go ?_
      | (simp only [List.append_eq, List.cons_append, List.nil_append]))
  · have hk : (byteF (newF b)).1 = 1 := by simp at hc; exact u8_int.1 (by simpa using hc)
    have hk' : ((byteF (newF b)).1.toNat : Int) = ((1 : UInt8).toNat : Int) := by rw [hk]
    simp only [hk'] at hc ⊢
    clear hk'
    have hr : recRF (newF b) = ((⟨1, (bookRF (byteF (newF b)).2).1, (flagF (bookRF (byteF (newF b)).2).2).1, ent0⟩ : Record), (flagF (bookRF (byteF (newF b)).2).2).2) := by (unfold recRF; rw [if_pos hk])
    have hp : parseS b = if endF (flagF (bookRF (byteF (newF b)).2).2).2 = 0 ∧ mayR (⟨1, (bookRF (byteF (newF b)).2).1, (flagF (bookRF (byteF (newF b)).2).2).1, ent0⟩ : Record) = true then ((⟨1, (bookRF (byteF (newF b)).2).1, (flagF (bookRF (byteF (newF b)).2).2).1, ent0⟩ : Record), 0) else (rec0, 200) := by rw [parseS_F b (by omega), hr]
    clear hr
    repeat' (first
      | ((first
      | ((with_reducible apply AP.k_any); first
               | refine AP.S ?_
               | (refine AP.Y ?_; dsimp only) | refine AP.G (fun hg => ?_) (fun hg => ?_)
        )
      | ((with_reducible apply AP.k_any); refine AP.CB [(1, 1)] 0 (dend_ac (flagF (bookRF (byteF (newF b)).2).2).2) ?_)
        | ((with_reducible apply AP.k_any); refine AP.C (dmay_ac (⟨1, (bookRF (byteF (newF b)).2).1, (flagF (bookRF (byteF (newF b)).2).2).1, ent0⟩ : Record) (Nat.le_trans hm (by omega)) (by simp [ent0])) ?_)
      )
        <;> (try simp only [nx, Nat.reduceAdd, Nat.reduceSub, BEq.rfl]))
      | ((with_reducible apply AP.k_nil); first
          | (refine AP.nil (hQ' _ ?_); clear hQ' Q')
          | refine AP.nil ?_)
      | ((with_reducible apply CP.k_reg); refine cp_regG fun Q' hQ' => ?_)
        | (with_reducible apply CP.k_reg1; refine cp_region ?_)
        | ((with_reducible apply CP.k_cond); first | refine cp_condT rfl ?_ | refine cp_condF rfl ?_ | refine cp_cond rfl (fun hc => ?_) (fun hc => ?_))
        | refine CP.go ?_
        | (simp only [List.append_eq, List.cons_append, List.nil_append]))
    all_goals first
      | ((have hq : ¬ (endF (flagF (bookRF (byteF (newF b)).2).2).2 = 0 ∧ mayR (⟨1, (bookRF (byteF (newF b)).2).1, (flagF (bookRF (byteF (newF b)).2).2).1, ent0⟩ : Record) = true) := by simp at *; simp [*])
         (exact RetQ.A [] (by exact ⟨(rp_neg hp hq).symm, rfl⟩)))
      | ((have hq : endF (flagF (bookRF (byteF (newF b)).2).2).2 = 0 ∧ mayR (⟨1, (bookRF (byteF (newF b)).2).1, (flagF (bookRF (byteF (newF b)).2).2).1, ent0⟩ : Record) = true := by simp at *; simp [*])
         (exact RetQ.A [] (by exact ⟨(rp_pos hp hq).symm, rfl⟩)))
  · have hk : (byteF (newF b)).1 = 2 := by simp at hc; exact u8_int.1 (by simpa using hc)
    have hk' : ((byteF (newF b)).1.toNat : Int) = ((2 : UInt8).toNat : Int) := by rw [hk]
    simp only [hk'] at hc ⊢
    clear hk'
    have hr : recRF (newF b) = ((⟨2, book0, false, (entryRF (byteF (newF b)).2).1⟩ : Record), (entryRF (byteF (newF b)).2).2) := by (unfold recRF; rw [if_neg (by rw [hk]; decide), if_pos hk])
    have hp : parseS b = if endF (entryRF (byteF (newF b)).2).2 = 0 ∧ mayR (⟨2, book0, false, (entryRF (byteF (newF b)).2).1⟩ : Record) = true then ((⟨2, book0, false, (entryRF (byteF (newF b)).2).1⟩ : Record), 0) else (rec0, 200) := by rw [parseS_F b (by omega), hr]
    clear hr
    repeat' (first
      | ((first
      | ((with_reducible apply AP.k_any); first
               | refine AP.S ?_
               | (refine AP.Y ?_; dsimp only) | refine AP.G (fun hg => ?_) (fun hg => ?_)
        )
      | ((with_reducible apply AP.k_any); refine AP.CB [(1, 1)] 0 (dend_ac (entryRF (byteF (newF b)).2).2) ?_)
        | ((with_reducible apply AP.k_any); refine AP.C (dmay_ac (⟨2, book0, false, (entryRF (byteF (newF b)).2).1⟩ : Record) (by simp [book0]) (Nat.le_trans he (by omega))) ?_)
      )
        <;> (try simp only [nx, Nat.reduceAdd, Nat.reduceSub, BEq.rfl]))
      | ((with_reducible apply AP.k_nil); first
          | (refine AP.nil (hQ' _ ?_); clear hQ' Q')
          | refine AP.nil ?_)
      | ((with_reducible apply CP.k_reg); refine cp_regG fun Q' hQ' => ?_)
        | (with_reducible apply CP.k_reg1; refine cp_region ?_)
        | ((with_reducible apply CP.k_cond); first | refine cp_condT rfl ?_ | refine cp_condF rfl ?_ | refine cp_cond rfl (fun hc => ?_) (fun hc => ?_))
        | refine CP.go ?_
        | (simp only [List.append_eq, List.cons_append, List.nil_append]))
    all_goals first
      | ((have hq : ¬ (endF (entryRF (byteF (newF b)).2).2 = 0 ∧ mayR (⟨2, book0, false, (entryRF (byteF (newF b)).2).1⟩ : Record) = true) := by simp at *; simp [*])
         (exact RetQ.A [] (by exact ⟨(rp_neg hp hq).symm, rfl⟩)))
      | ((have hq : endF (entryRF (byteF (newF b)).2).2 = 0 ∧ mayR (⟨2, book0, false, (entryRF (byteF (newF b)).2).1⟩ : Record) = true := by simp at *; simp [*])
         (exact RetQ.A [] (by exact ⟨(rp_pos hp hq).symm, rfl⟩)))
  · have hk1 : ¬ (byteF (newF b)).1 = 1 := by intro h; simp [h] at *
    have hk2 : ¬ (byteF (newF b)).1 = 2 := by intro h; simp [h] at *
    have hr : recRF (newF b) = ((⟨(byteF (newF b)).1, book0, false, ent0⟩ : Record), (byteF (newF b)).2) := by (unfold recRF; rw [if_neg hk1, if_neg hk2])
    have hp : parseS b = if endF (byteF (newF b)).2 = 0 ∧ mayR (⟨(byteF (newF b)).1, book0, false, ent0⟩ : Record) = true then ((⟨(byteF (newF b)).1, book0, false, ent0⟩ : Record), 0) else (rec0, 200) := by rw [parseS_F b (by omega), hr]
    clear hr
    repeat' (first
      | ((first
      | ((with_reducible apply AP.k_any); first
               | refine AP.S ?_
               | (refine AP.Y ?_; dsimp only) | refine AP.G (fun hg => ?_) (fun hg => ?_)
        )
      | ((with_reducible apply AP.k_any); refine AP.CB [(1, 1)] 0 (dend_ac (byteF (newF b)).2) ?_)
        | ((with_reducible apply AP.k_any); refine AP.C (dmay_ac (⟨(byteF (newF b)).1, book0, false, ent0⟩ : Record) (by simp [book0]) (by simp [ent0])) ?_)
      )
        <;> (try simp only [nx, Nat.reduceAdd, Nat.reduceSub, BEq.rfl]))
      | ((with_reducible apply AP.k_nil); first
          | (refine AP.nil (hQ' _ ?_); clear hQ' Q')
          | refine AP.nil ?_)
      | ((with_reducible apply CP.k_reg); refine cp_regG fun Q' hQ' => ?_)
        | (with_reducible apply CP.k_reg1; refine cp_region ?_)
        | ((with_reducible apply CP.k_cond); first | refine cp_condT rfl ?_ | refine cp_condF rfl ?_ | refine cp_cond rfl (fun hc => ?_) (fun hc => ?_))
        | refine CP.go ?_
        | (simp only [List.append_eq, List.cons_append, List.nil_append]))
    all_goals first
      | ((have hq : ¬ (endF (byteF (newF b)).2 = 0 ∧ mayR (⟨(byteF (newF b)).1, book0, false, ent0⟩ : Record) = true) := by simp at *; simp [*])
         (exact RetQ.A [] (by exact ⟨(rp_neg hp hq).symm, rfl⟩)))
      | ((have hq : endF (byteF (newF b)).2 = 0 ∧ mayR (⟨(byteF (newF b)).1, book0, false, ent0⟩ : Record) = true := by simp at *; simp [*])
         (exact RetQ.A [] (by exact ⟨(rp_pos hp hq).symm, rfl⟩)))
end Go.Proofs.Ytkdbedbefojieaa

namespace Go.Proofs.Ytkdbedbefojieaa
set_option linter.unusedVariables false
set_option linter.unusedSimpArgs false
open Go.RowKit
set_option maxRecDepth 100000
theorem recR_small (b : List UInt8) : (recR (newR b)).1.book.cfg.members.length ≤ 5 := by
  unfold recR
  split
  · exact configR_mem _
  · split <;> simp [book0]
theorem recR_body (b : List UInt8) {k : Nat} (h : b.length ≤ k) : (recR (newR b)).1.entry.body.length ≤ k := by
  unfold recR
  split
  · simp [ent0]
  · split
    · exact entryR_body (byteR_len (newR_len h))
    · simp [ent0]
def okBk (b : Book) : Prop := okCf b.cfg ∧ I64 b.since ∧ I64 b.upto
def bookF (b : Book) : List UInt8 := configF b.cfg ++ intS b.since ++ flagS b.whole ++ intS b.upto
theorem cod_book : Cod bookR bookF okBk :=
  (((cod_config.seq (fun _ _ => cod_int) fun _ => cod_int.stk).seq (fun _ _ => cod_flag) fun _ => cod_flag.stk).seq (fun _ _ => cod_int) fun _ => cod_int.stk).iso
    (fun x => (⟨x.1.1.1, x.1.1.2, x.1.2, x.2⟩ : Book)) (fun b => (((b.cfg, b.since), b.whole), b.upto)) (fun st => rfl) (fun b _ => by simp [bookF]) (fun b hb => ⟨⟨⟨⟨hb.1, hb.2.1⟩, trivial⟩, hb.2.2⟩, rfl⟩) fun x hx => ⟨⟨hx.1.1.1, hx.1.1.2, hx.2⟩, rfl⟩
def takeRk (k : UInt8) (st : Rd) : Record × Rd :=
  if k = 1 then (⟨1, (bookR st).1, (flagR (bookR st).2).1, ent0⟩, (flagR (bookR st).2).2)
  else if k = 2 then (⟨2, book0, false, (entryR st).1⟩, (entryR st).2)
  else (⟨k, book0, false, ent0⟩, st)
theorem recR_take (st : Rd) : recR st = takeRk (byteR st).1 (byteR st).2 := by
  unfold recR takeRk; rfl
def partF (r : Record) : List UInt8 := if r.kind = 1 then bookF r.book ++ flagS r.drop else if r.kind = 2 then entryF r.entry else []
theorem recForm_eq (r : Record) : recForm r = [r.kind] ++ partF r := by
  unfold recForm partF bookF; rfl
def okRk (k : UInt8) (r : Record) : Prop := r.kind = k ∧ (if k = 1 then r.entry = ent0 ∧ okBk r.book else if k = 2 then r.book = book0 ∧ r.drop = false ∧ okEn r.entry else r.book = book0 ∧ r.drop = false ∧ r.entry = ent0)
theorem cod_takeR (k : UInt8) : Cod (takeRk k) partF (okRk k) := by
  by_cases h1 : k = 1
  · subst h1
    have e : takeRk 1 = fun st => (⟨1, (bookR st).1, (flagR (bookR st).2).1, ent0⟩, (flagR (bookR st).2).2) := by funext st; rw [takeRk, if_pos rfl]
    rw [e]
    exact (cod_book.seq (fun _ _ => cod_flag) fun _ => cod_flag.stk).iso (fun x => (⟨1, x.1, x.2, ent0⟩ : Record)) (fun r => (r.book, r.drop)) (fun st => rfl)
      (fun r hr => by rw [partF, if_pos hr.1]) (fun r hr => by
        obtain ⟨h, h2⟩ := hr
        rw [if_pos rfl] at h2
        exact ⟨⟨h2.2, trivial⟩, by cases r; simp at h h2 ⊢; exact ⟨h.symm, h2.1.symm⟩⟩) fun x hx => ⟨⟨rfl, by rw [if_pos rfl]; exact ⟨rfl, hx.1⟩⟩, rfl⟩
  · by_cases h2 : k = 2
    · subst h2
      have e : takeRk 2 = fun st => (⟨2, book0, false, (entryR st).1⟩, (entryR st).2) := by funext st; rw [takeRk, if_neg (by decide), if_pos rfl]
      rw [e]
      exact cod_entry.iso (fun x => (⟨2, book0, false, x⟩ : Record)) (fun r => r.entry) (fun st => rfl)
        (fun r hr => by rw [partF, hr.1, if_neg (by decide), if_pos rfl]) (fun r hr => by
          obtain ⟨h, h2⟩ := hr
          rw [if_neg (by decide), if_pos rfl] at h2
          exact ⟨h2.2.2, by cases r; simp at h h2 ⊢; exact ⟨h.symm, h2.1.symm, h2.2.1⟩⟩) fun x hx => ⟨⟨rfl, by rw [if_neg (by decide), if_pos rfl]; exact ⟨rfl, rfl, hx⟩⟩, rfl⟩
    · have e : takeRk k = fun st => (⟨k, book0, false, ent0⟩, st) := by funext st; rw [takeRk, if_neg h1, if_neg h2]
      rw [e]
      exact { fwd := fun r rest hr => by
                obtain ⟨h, hr⟩ := hr
                rw [if_neg h1, if_neg h2] at hr
                cases r; simp at h hr
                simp [partF, h, h1, h2, hr]
              bwd := fun st h => ⟨by simp [partF, h1, h2], ⟨rfl, by rw [if_neg h1, if_neg h2]; exact ⟨rfl, rfl, rfl⟩⟩⟩
              stk := fun st h => h }
def okRec (r : Record) : Prop := okRk r.kind r
theorem cod_rec : Cod recR recForm okRec := by
  have e : recR = fun st => takeRk (byteR st).1 (byteR st).2 := funext recR_take
  rw [e]
  exact (cod_byte.seq (fun k _ => cod_takeR k) fun k => (cod_takeR k).stk).iso (fun x => x.2) (fun r => (r.kind, r)) (fun st => rfl)
    (fun r _ => recForm_eq r) (fun r hr => ⟨⟨trivial, hr⟩, rfl⟩) fun x hx => ⟨by obtain ⟨k, r⟩ := x; obtain ⟨_, h2⟩ := hx; dsimp only at h2 ⊢; rw [okRec, h2.1]; exact h2, by obtain ⟨k, r⟩ := x; obtain ⟨_, h2⟩ := hx; dsimp only at h2 ⊢; rw [h2.1]⟩
def rngR (r : Record) : Prop := (I64 r.book.cfg.epoch ∧ ∀ x ∈ r.book.cfg.members, okMb x) ∧ I64 r.book.since ∧ I64 r.book.upto ∧ I64 r.entry.pos ∧ I64 r.entry.stamp ∧ I64 r.entry.client ∧ I64 r.entry.id
theorem noE_of {r : Record} (h : noE r = true) : r.entry = ent0 := by
  obtain ⟨k, ⟨⟨ep, ms⟩, a, b, c⟩, d, ⟨p, q, s, t, bo⟩⟩ := r
  simp [noE] at h; simp [ent0, h]
theorem noB_of {r : Record} (h : noB r = true) : r.book = book0 ∧ r.drop = false := by
  obtain ⟨k, ⟨⟨ep, ms⟩, a, b, c⟩, d, ⟨p, q, s, t, bo⟩⟩ := r
  simp [noB] at h; simp [book0, h]
theorem okRec_of {r : Record} (h : mayR r = true) (g : rngR r) : okRec r := by
  obtain ⟨⟨g1, g2⟩, g3, g4, g5, g6, g7, g8⟩ := g
  unfold mayR at h
  unfold okRec okRk
  refine ⟨rfl, ?_⟩
  simp only [u8_one, u8_two] at h
  split at h
  · rename_i hk
    rw [if_pos hk]
    simp only [Bool.and_eq_true, decide_eq_true_eq] at h
    refine ⟨noE_of h.1.1.1.1, ⟨g1, ?_, g2⟩, g3, g4⟩
    have := h.1.1.1.2
    simp only [mayCfg, Bool.and_eq_true, decide_eq_true_eq] at this
    exact this.1.2
  · rename_i hk
    rw [if_neg hk]
    split at h
    · rename_i hk2
      rw [if_pos hk2]
      simp only [Bool.and_eq_true] at h
      have h2 := h.2
      simp only [mayE, Bool.and_eq_true, decide_eq_true_eq] at h2
      exact ⟨(noB_of h.1).1, (noB_of h.1).2, g5, g6, g7, g8, by omega⟩
    · rename_i hk2
      rw [if_neg hk2]
      split at h
      · simp only [Bool.and_eq_true] at h
        exact ⟨(noB_of h.1).1, (noB_of h.1).2, noE_of h.2⟩
      · cases h
theorem recForm_len {r : Record} (h : mayR r = true) : (recForm r).length ≤ 2000 := by
  unfold mayR at h
  unfold recForm
  simp only [u8_one, u8_two] at h
  split at h
  · rename_i hk
    rw [if_pos hk]
    simp only [Bool.and_eq_true, decide_eq_true_eq] at h
    have := h.1.1.1.2
    simp only [mayCfg, Bool.and_eq_true, decide_eq_true_eq] at this
    have h5 := this.1.2
    simp only [List.length_append, configF_length, intS_length, flagS_length, List.length_cons, List.length_nil]; omega
  · rename_i hk
    rw [if_neg hk]
    split at h
    · rename_i hk2
      rw [if_pos hk2]
      simp only [Bool.and_eq_true] at h
      have h2 := h.2
      simp only [mayE, Bool.and_eq_true, decide_eq_true_eq] at h2
      have : (entryF r.entry).length = 36 + r.entry.body.length := by simp [entryF, intS_length, restF_length]; omega
      simp only [List.length_append, this, List.length_cons, List.length_nil]; omega
    · rename_i hk2
      rw [if_neg hk2]; simp
theorem newR_eq {b : List UInt8} (h : b.length ≤ 65536) : newR b = (0, b) := by unfold newR; rw [if_neg (by omega)]
theorem rparse_form {r : Record} (h : mayR r = true) (g : rngR r) : parseS (recForm r) = (r, 0) := by
  have hl := recForm_len h
  have h1 := cod_rec.fwd r [] (okRec_of h g)
  rw [List.append_nil, ← newR_eq (by omega)] at h1
  unfold parseS
  rw [h1, if_pos ⟨by simp [endR], h⟩]
theorem rparse_cases (b : List UInt8) (hl : b.length ≤ 65536) : (∃ w, parseS b = (w, 0) ∧ mayR w = true ∧ recForm w = b ∧ okRec w) ∨ parseS b = (rec0, 200) := by
  unfold parseS
  by_cases hg : endR (recR (newR b)).2 = 0 ∧ mayR (recR (newR b)).1 = true
  · rw [if_pos hg]
    refine .inl ⟨_, rfl, hg.2, ?_⟩
    have he := hg.1
    unfold endR at he
    split at he
    · rename_i h0
      split at he
      · rename_i h1
        have := cod_rec.bwd (newR b) h0
        rw [h1, List.append_nil, newR_eq hl] at this
        rw [newR_eq hl]
        exact ⟨this.1.symm, this.2⟩
      · cases he
    · rename_i h0; exact absurd he h0
  · rw [if_neg hg]; exact .inr rfl
theorem rparse_cut {r : Record} {b c : List UInt8} (h : mayR r = true) (g : rngR r) (hb : recForm r = b ++ c) (hc : c ≠ []) : parseS b = (rec0, 200) := by
  have hl := recForm_len h
  rw [hb, List.length_append] at hl
  rcases rparse_cases b (by omega) with ⟨w, h1, h2, h3, h4⟩ | h1
  · have e1 : recR (0, recForm w ++ c) = (w, (0, c)) := cod_rec.fwd w c h4
    have e2 : recR (0, recForm r ++ []) = (r, (0, [])) := cod_rec.fwd r [] (okRec_of h g)
    rw [List.append_nil, hb, ← h3, e1] at e2
    simp at e2
    exact absurd e2.2 hc
  · exact h1
end Go.Proofs.Ytkdbedbefojieaa

namespace Go.Proofs.Ytkdbedbefojieaa
set_option linter.unusedVariables false
set_option linter.unusedSimpArgs false
set_option maxHeartbeats 8000000
open Go.RowKit
set_option maxRecDepth 100000
def thereS (n : Int) : Bool := decide (0 ≤ n) && decide (n < 5)
def atG : Nat → List Member → Int → Int
  | _, [], _ => -1
  | k, m :: l, n => if m.node = n then k else atG (k + 1) l n
theorem there_ac (n : Int) : AC Try.prog 44 [I n] [] (fun v bs => v = B (thereS n) ∧ bs = []) := by
  refine AC.N Try.func44 Try.ntmps44 ?_
  intro X
  simp only [nx, Nat.reduceAdd, Nat.reduceSub, BEq.rfl]
  repeat' (first
    | ((first
    | ((with_reducible apply AP.k_any); first
             | refine AP.S ?_
             | (refine AP.Y ?_; dsimp only) | refine AP.G (fun hg => ?_) (fun hg => ?_)
      )
    
    
    )
      <;> (try simp only [nx, Nat.reduceAdd, Nat.reduceSub, BEq.rfl]))
    | ((with_reducible apply AP.k_nil); first
        | (refine AP.nil (hQ' _ ?_); clear hQ' Q')
        | refine AP.nil ?_)
    | ((with_reducible apply CP.k_reg); refine cp_regG fun Q' hQ' => ?_)
      | (with_reducible apply CP.k_reg1; refine cp_region ?_)
      | ((with_reducible apply CP.k_cond); first | refine cp_condT rfl ?_ | refine cp_condF rfl ?_ | refine cp_cond rfl (fun hc => ?_) (fun hc => ?_))
      | refine CP.go ?_
      | (simp only [List.append_eq, List.cons_append, List.nil_append]))
  · (refine RetQ.B [] ?_; (try dsimp only [resV, List.getD_cons_succ, List.getD_cons_zero]); (exact ⟨by simp at hg; simp [thereS]; omega, rfl⟩))
  · (refine RetQ.B [] ?_; (try dsimp only [resV, List.getD_cons_succ, List.getD_cons_zero]); (exact ⟨by simp at hg; simp [thereS]; omega, rfl⟩))
theorem at1_ac (m : Member) (n : Int) : AC Try.prog 85 [.ag (eM m), .bp 0 0 0] [.c 3 [I n]] (fun v bs => v = B (decide (m.node = n)) ∧ bs = [.c 3 [I n]]) := by
  refine AC.N Try.func85 Try.ntmps85 ?_
  intro X
  simp only [nx, Nat.reduceAdd, Nat.reduceSub, BEq.rfl]
  repeat' (first
    | ((first
    | ((with_reducible apply AP.k_any); first
             | refine AP.S ?_
      )
    
    
    )
      <;> (try simp only [nx, Nat.reduceAdd, Nat.reduceSub, BEq.rfl]))
    | ((with_reducible apply AP.k_nil); first
        | (refine AP.nil (hQ' _ ?_); clear hQ' Q')
        | refine AP.nil ?_)
    | ((with_reducible apply CP.k_reg); refine cp_regG fun Q' hQ' => ?_)
      | (with_reducible apply CP.k_reg1; refine cp_region ?_)
      | ((with_reducible apply CP.k_cond); first | refine cp_condT rfl ?_ | refine cp_condF rfl ?_ | refine cp_cond rfl (fun hc => ?_) (fun hc => ?_))
      | refine CP.go ?_
      | (simp only [List.append_eq, List.cons_append, List.nil_append]))
  (refine RetQ.B [(0, 0)] ?_; (try dsimp only [resV, List.getD_cons_succ, List.getD_cons_zero]); (exact ⟨rfl, rfl⟩))
theorem index_ac (l : List Member) (n : Int) (hl : l.length ≤ 100000000) : AC Try.prog 84 [ms none l, .fn 85 [.bp 0 0 0]] [.c 3 [I n]] (fun v bs => v = I (atG 0 l n) ∧ bs = [.c 3 [I n]]) := by
  refine AC.N Try.func84 Try.ntmps84 ?_
  intro X
  simp only [nx, Nat.reduceAdd, Nat.reduceSub, BEq.rfl]
  repeat' (first
    | ((first
    | ((with_reducible apply AP.k_any); first
             | refine AP.S ?_
             | refine AP.E ?_
      )
    
    
    )
      <;> (try simp only [nx, Nat.reduceAdd, Nat.reduceSub, BEq.rfl]))
    | ((with_reducible apply AP.k_nil); first
        | (refine AP.nil (hQ' _ ?_); clear hQ' Q')
        | refine AP.nil ?_)
    | ((with_reducible apply CP.k_reg); refine cp_regG fun Q' hQ' => ?_)
      | (with_reducible apply CP.k_reg1; refine cp_region ?_)
      | ((with_reducible apply CP.k_cond); first | refine cp_condT rfl ?_ | refine cp_condF rfl ?_ | refine cp_cond rfl (fun hc => ?_) (fun hc => ?_))
      | refine CP.go ?_
      | (simp only [List.append_eq, List.cons_append, List.nil_append]))
  refine cp_loopS [5, 9, 10, 11, 12, 13, 14, 15, 16, 17, 18] (fun k => l.length - k) (fun k => k ≤ l.length ∧ atG 0 l n = atG k (l.drop k) n) (fun k => [(8, I k)]) (fun _ => []) 0 ⟨by omega, rfl⟩ (by exact Gh.W) ?_
  rintro k ⟨hk, he⟩
  simp only [setT, deT, setB, List.set_cons_succ, List.set_cons_zero]
  by_cases hlt : k < l.length
  · have hw : IntKind.i64.wrap ((k : Int) + 1) = ((k + 1 : Nat) : Int) := wrap_i64 (by omega) (by omega)
    rw [List.drop_eq_getElem_cons hlt, atG] at he
    repeat' (first
      | ((first
      | ((with_reducible apply AP.k_any); first
               | refine AP.S ?_
               | refine AP.E ?_
        )
      | ((with_reducible apply AP.k_any); refine AP.CB [(0, 0)] 0 (at1_ac l[k] n) ?_)
      
      )
        <;> (try simp only [nx, Nat.reduceAdd, Nat.reduceSub, BEq.rfl]))
      | ((with_reducible apply AP.k_nil); first
          | (refine AP.nil (hQ' _ ?_); clear hQ' Q')
          | refine AP.nil ?_)
      | ((with_reducible apply CP.k_reg); refine cp_regG fun Q' hQ' => ?_)
        | (with_reducible apply CP.k_reg1; refine cp_region ?_)
        | ((with_reducible apply CP.k_cond); first | refine cp_condT rfl ?_ | refine cp_condF rfl ?_ | refine cp_cond rfl (fun hc => ?_) (fun hc => ?_))
        | refine CP.go ?_
        | (simp only [List.append_eq, List.cons_append, List.nil_append]))
    · (refine RetQ.B [(0, 0)] ?_; (try dsimp only [resV, List.getD_cons_succ, List.getD_cons_zero]); (exact ⟨by rw [he, if_pos (by simpa using hc)], rfl⟩))
    · simp only [hw]
      exact ⟨k + 1, by omega, ⟨by omega, by rw [he, if_neg (by simpa using hc)]⟩, by exact Gh.W⟩
    · exfalso; simp at *; omega
  · rw [List.drop_of_length_le (by omega), atG] at he
    repeat' (first
      | ((first
      | ((with_reducible apply AP.k_any); first
               | refine AP.S ?_
               | refine AP.E ?_
        )
      
      
      )
        <;> (try simp only [nx, Nat.reduceAdd, Nat.reduceSub, BEq.rfl]))
      | ((with_reducible apply AP.k_nil); first
          | (refine AP.nil (hQ' _ ?_); clear hQ' Q')
          | refine AP.nil ?_)
      | ((with_reducible apply CP.k_reg); refine cp_regG fun Q' hQ' => ?_)
        | (with_reducible apply CP.k_reg1; refine cp_region ?_)
        | ((with_reducible apply CP.k_cond); first | refine cp_condT rfl ?_ | refine cp_condF rfl ?_ | refine cp_cond rfl (fun hc => ?_) (fun hc => ?_))
        | refine CP.go ?_
        | (simp only [List.append_eq, List.cons_append, List.nil_append]))
    all_goals first
      | (exfalso; simp at *; omega)
      | (refine RetQ.B [(0, 0)] ?_; (try dsimp only [resV, List.getD_cons_succ, List.getD_cons_zero]); (exact ⟨by rw [he], rfl⟩))
theorem at_ac (l : List Member) (n : Int) (hl : l.length ≤ 100000000) : AC Try.prog 45 [ms none l, I n] [] (fun v bs => v = I (atG 0 l n) ∧ bs = []) := by
  refine AC.N Try.func45 Try.ntmps45 ?_
  intro X
  simp only [nx, Nat.reduceAdd, Nat.reduceSub, BEq.rfl]
  repeat' (first
    | ((first
    | ((with_reducible apply AP.k_any); first
             | refine AP.S ?_
      )
    | ((with_reducible apply AP.k_any); refine AP.CB [(0, 1)] 0 (index_ac l n hl) ?_)
    
    )
      <;> (try simp only [nx, Nat.reduceAdd, Nat.reduceSub, BEq.rfl]))
    | ((with_reducible apply AP.k_nil); first
        | (refine AP.nil (hQ' _ ?_); clear hQ' Q')
        | refine AP.nil ?_)
    | ((with_reducible apply CP.k_reg); refine cp_regG fun Q' hQ' => ?_)
      | (with_reducible apply CP.k_reg1; refine cp_region ?_)
      | ((with_reducible apply CP.k_cond); first | refine cp_condT rfl ?_ | refine cp_condF rfl ?_ | refine cp_cond rfl (fun hc => ?_) (fun hc => ?_))
      | refine CP.go ?_
      | (simp only [List.append_eq, List.cons_append, List.nil_append]))
  (refine RetQ.B [] ?_; (try dsimp only [resV, List.getD_cons_succ, List.getD_cons_zero]); (exact ⟨rfl, rfl⟩))
def okM (c : Config) (i : Nat) (m : Member) : Bool :=
  thereS m.node && decide (atG 0 (c.members.take i) m.node < 0) && decide (1 ≤ m.since) && decide (m.since ≤ c.epoch) && (m.whole || (decide (i ≠ 0) && decide (c.members.length ≤ i + 1)))
def mayL (c : Config) : Nat → List Member → Bool
  | _, [] => true
  | i, m :: l => okM c i m && mayL c (i + 1) l
def mayC (c : Config) : Bool := decide (1 ≤ c.epoch) && decide (c.epoch ≤ 1099511627776) && decide (1 ≤ c.members.length) && decide (c.members.length ≤ 5) && mayL c 0 c.members
theorem may_ac (c : Config) (hc0 : c.members.length ≤ 100000000) : AC Try.prog 25 [.ag (eC none c)] [] (fun v bs => v = B (mayC c) ∧ bs = []) := by
  refine AC.N Try.func25 Try.ntmps25 ?_
  intro X
  simp only [nx, Nat.reduceAdd, Nat.reduceSub, BEq.rfl]
  repeat' (first
    | ((first
    | ((with_reducible apply AP.k_any); first
             | refine AP.S ?_
             | refine AP.E ?_
             | (refine AP.Y ?_; dsimp only) | refine AP.G (fun hg => ?_) (fun hg => ?_)
             | refine AP.T ?_
             | (refine AP.V (fun c hnil => ?_); simp only [nz])
      )
    
    | ((with_reducible apply AQ.k_any); first
                    | refine AQ.S ?_
                    | refine AQ.E ?_
                    | (refine AQ.Y ?_; dsimp only) | refine AQ.G (fun hg => ?_) (fun hg => ?_)
      )
    )
      <;> (try simp only [nx, Nat.reduceAdd, Nat.reduceSub, BEq.rfl]))
    | ((with_reducible apply AP.k_nil); first
        | (refine AP.nil (hQ' _ ?_); clear hQ' Q')
        | refine AP.nil ?_)
    | ((with_reducible apply AQ.k_nil); first | (refine AQ.nil (hQ' _ ?_); clear hQ' Q') | refine AQ.nil ?_)
    | ((with_reducible apply CP.k_drw); refine cp_drw (by kernel_rfl) (by kernel_rfl) fun Q' hQ' => ?_)
    | ((with_reducible apply CP.k_drw1); refine cp_draw (by kernel_rfl) (by kernel_rfl) ?_)
    | ((with_reducible apply CP.k_reg); refine cp_regG fun Q' hQ' => ?_)
      | (with_reducible apply CP.k_reg1; refine cp_region ?_)
      | ((with_reducible apply CP.k_cond); first | refine cp_condT rfl ?_ | refine cp_condF rfl ?_ | refine cp_cond rfl (fun hc => ?_) (fun hc => ?_))
      | refine CP.go ?_
      | (simp only [List.append_eq, List.cons_append, List.nil_append]))
  · (refine RetQ.B [] ?_; (try dsimp only [resV, List.getD_cons_succ, List.getD_cons_zero]); ((have h : mayC c = false := by (simp [mayC]; simp at *; omega)); exact ⟨by rw [h], rfl⟩))
  · (refine RetQ.B [] ?_; (try dsimp only [resV, List.getD_cons_succ, List.getD_cons_zero]); ((have h : mayC c = false := by (simp [mayC]; simp at *; omega)); exact ⟨by rw [h], rfl⟩))
  · (refine RetQ.B [] ?_; (try dsimp only [resV, List.getD_cons_succ, List.getD_cons_zero]); ((have h : mayC c = false := by (simp [mayC]; simp at *; omega)); exact ⟨by rw [h], rfl⟩))
  · (refine RetQ.B [] ?_; (try dsimp only [resV, List.getD_cons_succ, List.getD_cons_zero]); ((have h : mayC c = false := by (simp [mayC]; simp at *; omega)); exact ⟨by rw [h], rfl⟩))
  rename_i hg1 hg2
  simp at hg hg1 hg2 hc
  have hm : mayC c = mayL c 0 c.members := by
    have e1 : 1 ≤ c.epoch := by omega
    have e2 : c.epoch ≤ 1099511627776 := by omega
    have e3 : 1 ≤ c.members.length := by omega
    have e4 : c.members.length ≤ 5 := by omega
    simp [mayC, e1, e2, e3, e4]
  clear hg1 hg2
  refine CP.gh gh_slot ?_
  simp only [nx, Nat.reduceAdd, Nat.reduceSub, BEq.rfl]
  refine cp_loopS [2, 4, 5, 28, 29, 30, 31, 32, 33, 34, 35, 36, 37, 38, 39, 40, 41, 42, 43, 44, 45, 46, 47, 48, 49, 50, 51, 52, 53, 54, 55, 56, 57, 58, 59, 60, 61, 62, 63, 64, 65, 66, 67, 68, 69, 70, 71, 72, 73, 74, 75] (fun a : Nat × Nat => c.members.length - a.1) (fun a => a.1 ≤ c.members.length ∧ mayC c = mayL c a.1 (c.members.drop a.1)) (fun a => [(28, I a.1)]) (fun a => [(1, ⟨a.2, .x⟩)]) (0, 0) ⟨by omega, hm⟩ (by exact Gh.W) ?_
  rintro ⟨k, u⟩ ⟨hk, he⟩
  simp only [setT, deT, setB, List.set_cons_succ, List.set_cons_zero]
  dsimp only at hk he
  by_cases hlt : k < c.members.length
  · have hw : IntKind.i64.wrap ((k : Int) + 1) = ((k + 1 : Nat) : Int) := wrap_i64 (by omega) (by omega)
    have hw2 : IntKind.i64.wrap ((c.members.length : Int) - 1) = (c.members.length : Int) - 1 := wrap_i64 (by omega) (by omega)
    rw [List.drop_eq_getElem_cons hlt, mayL] at he
    repeat' (first
      | ((first
      | ((with_reducible apply AP.k_any); first
               | refine AP.S ?_
               | refine AP.E ?_
               | (refine AP.Y ?_; dsimp only) | refine AP.G (fun hg => ?_) (fun hg => ?_)
               | refine AP.T ?_
               | (refine AP.V (fun c hnil => ?_); simp only [nz])
        )
      
      | ((with_reducible apply AQ.k_any); first
                      | refine AQ.S ?_
                      | refine AQ.E ?_
                      | (refine AQ.Y ?_; dsimp only) | refine AQ.G (fun hg => ?_) (fun hg => ?_)
        )
      | ((with_reducible apply AQ.k_any); refine AQ.CQ (there_ac _) ?_)
        | ((with_reducible apply AQ.k_any); refine AQ.CQ (at_ac (c.members.take k) _ (by simp; omega)) ?_))
        <;> (try simp only [nx, Nat.reduceAdd, Nat.reduceSub, BEq.rfl]))
      | ((with_reducible apply AP.k_nil); first
          | (refine AP.nil (hQ' _ ?_); clear hQ' Q')
          | refine AP.nil ?_)
      | ((with_reducible apply AQ.k_nil); first | (refine AQ.nil (hQ' _ ?_); clear hQ' Q') | refine AQ.nil ?_)
      | ((with_reducible apply CP.k_drw); refine cp_drw (by kernel_rfl) (by kernel_rfl) fun Q' hQ' => ?_)
      | ((with_reducible apply CP.k_drw1); refine cp_draw (by kernel_rfl) (by kernel_rfl) ?_)
      | ((with_reducible apply CP.k_reg); refine cp_regG fun Q' hQ' => ?_)
        | (with_reducible apply CP.k_reg1; refine cp_region ?_)
        | ((with_reducible apply CP.k_cond); first | refine cp_condT rfl ?_ | refine cp_condF rfl ?_ | refine cp_cond rfl (fun hc => ?_) (fun hc => ?_))
        | refine CP.go ?_
        | (simp only [List.append_eq, List.cons_append, List.nil_append]))

    all_goals simp only [List.length_map, hw2, Nat.sub_zero, Int.toNat_natCast, List.drop_zero] at *
    all_goals first
      | (exfalso; simp at *; omega)
      | (refine RetQ.B [] ?_; (try dsimp only [resV, List.getD_cons_succ, List.getD_cons_zero]); ((have h : okM c k c.members[k] = false := by (cases h : okM c k c.members[k] with | false => rfl | true => (exfalso; clear he hm hw; simp [okM] at h; cases hwh : c.members[k].whole <;> simp_all <;> omega))); (have h2 : mayC c = false := by rw [he, h, Bool.false_and]); exact ⟨by rw [h2], rfl⟩))
      | ((try simp only [hw]); exact ⟨(k + 1, u + 1), by (dsimp only; omega), ⟨by (dsimp only; omega), by rw [he]; (have h : okM c k c.members[k] = true := by (clear he hm hw; cases hwh : c.members[k].whole <;> simp [okM, hwh] <;> simp_all <;> omega)); rw [h, Bool.true_and]⟩, by exact Gh.W⟩)
  · rw [List.drop_of_length_le (by omega), mayL] at he
    repeat' (first
      | ((first
      | ((with_reducible apply AP.k_any); first
               | refine AP.S ?_
               | refine AP.E ?_
               | (refine AP.Y ?_; dsimp only) | refine AP.G (fun hg => ?_) (fun hg => ?_)
               | refine AP.T ?_
               | (refine AP.V (fun c hnil => ?_); simp only [nz])
        )
      
      | ((with_reducible apply AQ.k_any); first
                      | refine AQ.S ?_
                      | refine AQ.E ?_
                      | (refine AQ.Y ?_; dsimp only) | refine AQ.G (fun hg => ?_) (fun hg => ?_)
        )
      )
        <;> (try simp only [nx, Nat.reduceAdd, Nat.reduceSub, BEq.rfl]))
      | ((with_reducible apply AP.k_nil); first
          | (refine AP.nil (hQ' _ ?_); clear hQ' Q')
          | refine AP.nil ?_)
      | ((with_reducible apply AQ.k_nil); first | (refine AQ.nil (hQ' _ ?_); clear hQ' Q') | refine AQ.nil ?_)
      | ((with_reducible apply CP.k_drw); refine cp_drw (by kernel_rfl) (by kernel_rfl) fun Q' hQ' => ?_)
      | ((with_reducible apply CP.k_drw1); refine cp_draw (by kernel_rfl) (by kernel_rfl) ?_)
      | ((with_reducible apply CP.k_reg); refine cp_regG fun Q' hQ' => ?_)
        | (with_reducible apply CP.k_reg1; refine cp_region ?_)
        | ((with_reducible apply CP.k_cond); first | refine cp_condT rfl ?_ | refine cp_condF rfl ?_ | refine cp_cond rfl (fun hc => ?_) (fun hc => ?_))
        | refine CP.go ?_
        | (simp only [List.append_eq, List.cons_append, List.nil_append]))
    all_goals first
      | (exfalso; simp at *; omega)
      | (refine RetQ.B [] ?_; (try dsimp only [resV, List.getD_cons_succ, List.getD_cons_zero]); (exact ⟨by rw [he], rfl⟩))
end Go.Proofs.Ytkdbedbefojieaa

namespace Go.Proofs.Ytkdbedbefojieaa
set_option linter.unusedVariables false
set_option linter.unusedSimpArgs false
set_option maxHeartbeats 8000000
open Go.RowKit
set_option maxRecDepth 100000
theorem atG_lt : ∀ {k : Nat} {l : List Member} {n : Int}, -1 ≤ atG k l n ∧ atG k l n < (k : Int) + l.length
  | k, [], n => by simp [atG]; omega
  | k, m :: l, n => by
    rw [atG]
    split
    · simp; omega
    · have := atG_lt (k := k + 1) (l := l) (n := n)
      simp; omega
def atM (c : Config) (n : Int) : Option Member := if mayC c then (if 0 ≤ atG 0 c.members n then c.members[(atG 0 c.members n).toNat]? else none) else none
def mZero : Member := ⟨0, 0, false⟩
def kZero : Book := ⟨⟨0, []⟩, 0, false, 0⟩
def lOver (b : Book) (to : Config) (node length : Int) : Book × Bool × Int :=
  if mayC to = true ∧ 0 ≤ length then
    (if to.epoch ≤ b.cfg.epoch then (kZero, false, 240) else
      match atM to node with
      | none => (⟨to, 0, false, 0⟩, false, 0)
      | some m => if m.since = b.since then (⟨to, m.since, b.whole, if b.whole then length else 0⟩, false, 0) else (⟨to, m.since, decide (to.epoch = 1), 0⟩, true, 0))
  else (kZero, false, 2)
def lFills (b : Book) (upto synced : Int) : Bool := decide (0 < b.since) && !b.whole && decide (upto ≤ synced)
theorem At_ac (c : Config) (n : Int) (hc0 : c.members.length ≤ 100000000) :
    AC Try.prog 26 [.ag (eC none c), I n] [] (fun v bs => v = .tu [.ag (eM ((atM c n).getD mZero)), B (atM c n).isSome] ∧ bs = []) := by
  have hlt := atG_lt (k := 0) (l := c.members) (n := n)
  by_cases h0 : 0 ≤ atG 0 c.members n
  · refine AC.N Try.func26 Try.ntmps26 ?_
    intro X
    simp only [nx, Nat.reduceAdd, Nat.reduceSub, BEq.rfl]
    repeat' (first
      | ((first
      | ((with_reducible apply AP.k_any); first
               | refine AP.S ?_
               | refine AP.E ?_
               | (refine AP.Y ?_; dsimp only) | refine AP.G (fun hg => ?_) (fun hg => ?_)
               | refine AP.T ?_
        )
      | ((with_reducible apply AP.k_any); refine AP.C (at_ac c.members n hc0) ?_)
        | ((with_reducible apply AP.k_any); refine AP.C (may_ac c hc0) ?_)
        | ((with_reducible apply AQ.k_any); refine AQ.CQ (at_ac c.members n hc0) ?_)
      
      | ((with_reducible apply AQ.k_any); refine AQ.CQ (may_ac c hc0) ?_))
        <;> (try simp only [nx, Nat.reduceAdd, Nat.reduceSub, BEq.rfl]))
      | ((with_reducible apply AP.k_nil); first
          | (refine AP.nil (hQ' _ ?_); clear hQ' Q')
          | refine AP.nil ?_)
      | ((with_reducible apply CP.k_reg); refine cp_regG fun Q' hQ' => ?_)
        | (with_reducible apply CP.k_reg1; refine cp_region ?_)
        | ((with_reducible apply CP.k_cond); first | refine cp_condT rfl ?_ | refine cp_condF rfl ?_ | refine cp_cond rfl (fun hc => ?_) (fun hc => ?_))
        | refine CP.go ?_
        | (simp only [List.append_eq, List.cons_append, List.nil_append]))
    · exfalso; simp at *; omega
    · simp at hc
      (refine RetQ.B [] ?_; (try dsimp only [resV, List.getD_cons_succ, List.getD_cons_zero]); ((have e : atM c n = none := by (simp [atM, hc])); exact ⟨by rw [e]; rfl, rfl⟩))
    · simp at hc
      (refine RetQ.B [] ?_; (try dsimp only [resV, List.getD_cons_succ, List.getD_cons_zero]); ((have e : atM c n = some (c.members[(atG 0 c.members n).toNat]'(by omega)) := by (simp [atM, hc, h0])); exact ⟨by rw [e]; rfl, rfl⟩))
  · refine AC.N Try.func26 Try.ntmps26 ?_
    intro X
    simp only [nx, Nat.reduceAdd, Nat.reduceSub, BEq.rfl]
    repeat' (first
      | ((first
      | ((with_reducible apply AP.k_any); first
               | refine AP.S ?_
               | refine AP.E ?_
               | (refine AP.Y ?_; dsimp only) | refine AP.G (fun hg => ?_) (fun hg => ?_)
               | refine AP.T ?_
        )
      | ((with_reducible apply AP.k_any); refine AP.C (at_ac c.members n hc0) ?_)
        | ((with_reducible apply AP.k_any); refine AP.C (may_ac c hc0) ?_)
        | ((with_reducible apply AQ.k_any); refine AQ.CQ (at_ac c.members n hc0) ?_)
      
      | ((with_reducible apply AQ.k_any); refine AQ.CQ (may_ac c hc0) ?_))
        <;> (try simp only [nx, Nat.reduceAdd, Nat.reduceSub, BEq.rfl]))
      | ((with_reducible apply AP.k_nil); first
          | (refine AP.nil (hQ' _ ?_); clear hQ' Q')
          | refine AP.nil ?_)
      | ((with_reducible apply CP.k_reg); refine cp_regG fun Q' hQ' => ?_)
        | (with_reducible apply CP.k_reg1; refine cp_region ?_)
        | ((with_reducible apply CP.k_cond); first | refine cp_condT rfl ?_ | refine cp_condF rfl ?_ | refine cp_cond rfl (fun hc => ?_) (fun hc => ?_))
        | refine CP.go ?_
        | (simp only [List.append_eq, List.cons_append, List.nil_append]))
    all_goals first
      | (refine RetQ.B [] ?_; (try dsimp only [resV, List.getD_cons_succ, List.getD_cons_zero]); ((have e : atM c n = none := by (simp [atM, h0])); exact ⟨by rw [e]; rfl, rfl⟩))
      | (exfalso; simp at *; omega)
theorem fills_ac (b : Book) (upto synced : Int) :
    AC Try.prog 15 [.ag (eK none b), I upto, I synced] [] (fun v bs => v = B (lFills b upto synced) ∧ bs = []) := by
  refine AC.N Try.func15 Try.ntmps15 ?_
  intro X
  simp only [nx, Nat.reduceAdd, Nat.reduceSub, BEq.rfl]
  repeat' (first
    | ((first
    | ((with_reducible apply AP.k_any); first
             | refine AP.S ?_
             | (refine AP.Y ?_; dsimp only) | refine AP.G (fun hg => ?_) (fun hg => ?_)
      )
    
    
    )
      <;> (try simp only [nx, Nat.reduceAdd, Nat.reduceSub, BEq.rfl]))
    | ((with_reducible apply AP.k_nil); first
        | (refine AP.nil (hQ' _ ?_); clear hQ' Q')
        | refine AP.nil ?_)
    | ((with_reducible apply CP.k_reg); refine cp_regG fun Q' hQ' => ?_)
      | (with_reducible apply CP.k_reg1; refine cp_region ?_)
      | ((with_reducible apply CP.k_cond); first | refine cp_condT rfl ?_ | refine cp_condF rfl ?_ | refine cp_cond rfl (fun hc => ?_) (fun hc => ?_))
      | refine CP.go ?_
      | (simp only [List.append_eq, List.cons_append, List.nil_append]))
  all_goals simp at *
  all_goals (refine RetQ.B [] ?_; (try dsimp only [resV, List.getD_cons_succ, List.getD_cons_zero]); ((refine ⟨?_, rfl⟩); (try unfold lFills); (cases hb : b.whole <;> simp_all <;> omega)))
abbrev rO (p : Book × Bool × Int) : AV := .tu [.ag (eK none p.1), B p.2.1, I p.2.2]
theorem over_ac (b : Book) (to : Config) (n len : Int) (hc0 : to.members.length ≤ 100000000) :
    AC Try.prog 12 [.ag (eK none b), .ag (eC none to), I n, I len] [] (fun v bs => v = rO (lOver b to n len) ∧ bs = []) := by
  refine AC.N Try.func12 Try.ntmps12 ?_
  intro X
  simp only [nx, Nat.reduceAdd, Nat.reduceSub, BEq.rfl]
  repeat' (first
    | ((first
    | ((with_reducible apply AP.k_any); first
             | refine AP.S ?_
             | (refine AP.Y ?_; dsimp only) | refine AP.G (fun hg => ?_) (fun hg => ?_)
      )
    | ((with_reducible apply AP.k_any); refine AP.C ((own_ac to hc0).ro (r2 := .ag (eC none to)) (by simp [AV.ro, roC, ro_M])) ?_)
    | ((with_reducible apply AP.k_any); refine AP.C (At_ac to n hc0) ?_)
    | ((with_reducible apply AP.k_any); refine AP.C (may_ac to hc0) ?_)
    
    | ((with_reducible apply AQ.k_any); refine AQ.CQ (may_ac to hc0) ?_))
      <;> (try simp only [nx, Nat.reduceAdd, Nat.reduceSub, BEq.rfl]))
    | ((with_reducible apply AP.k_nil); first
        | (refine AP.nil (hQ' _ ?_); clear hQ' Q')
        | refine AP.nil ?_)
    | ((with_reducible apply CP.k_reg); refine cp_regG fun Q' hQ' => ?_)
      | (with_reducible apply CP.k_reg1; refine cp_region ?_)
      | ((with_reducible apply CP.k_cond); first | refine cp_condT rfl ?_ | refine cp_condF rfl ?_ | refine cp_cond rfl (fun hc => ?_) (fun hc => ?_))
      | refine CP.go ?_
      | (simp only [List.append_eq, List.cons_append, List.nil_append]))
  all_goals simp at *
  · (exact RetQ.A [] (by (have e : lOver b to n len = (kZero, false, 2) := by simp [lOver, *]); exact ⟨congrArg rO e.symm, rfl⟩))
  · (exact RetQ.A [] (by (have e : lOver b to n len = (kZero, false, 2) := by (simp [lOver, *]; intro h; omega)); exact ⟨congrArg rO e.symm, rfl⟩))
  · (exact RetQ.A [] (by (have e : lOver b to n len = (kZero, false, 240) := by simp [lOver, *]); exact ⟨congrArg rO e.symm, rfl⟩))
  · rename_i h2 h3
    (refine RetQ.B [] ?_; (try dsimp only [resV, List.getD_cons_succ, List.getD_cons_zero]); ((have e : lOver b to n len = (⟨to, 0, false, 0⟩, false, 0) := by simp [lOver, *, show ¬ to.epoch ≤ b.cfg.epoch by omega]); exact ⟨congrArg rO e.symm, rfl⟩))
  all_goals rename_i h2 h3
  all_goals obtain ⟨m, hm⟩ : ∃ m, atM to n = some m := Option.isSome_iff_exists.1 (by assumption)
  all_goals simp only [hm, Option.getD_some]
  · (refine RetQ.B [] ?_; (try dsimp only [resV, List.getD_cons_succ, List.getD_cons_zero]); ((have e : lOver b to n len = (⟨to, m.since, decide (to.epoch = 1), 0⟩, true, 0) := by (have h9 : ¬ to.epoch ≤ b.cfg.epoch := by omega); simp_all [lOver]); exact ⟨congrArg rO e.symm, rfl⟩))
  · (refine RetQ.B [] ?_; (try dsimp only [resV, List.getD_cons_succ, List.getD_cons_zero]); ((have e : lOver b to n len = (⟨to, m.since, true, len⟩, false, 0) := by (have h9 : ¬ to.epoch ≤ b.cfg.epoch := by omega); simp_all [lOver]); exact ⟨congrArg rO e.symm, rfl⟩))
  · (refine RetQ.B [] ?_; (try dsimp only [resV, List.getD_cons_succ, List.getD_cons_zero]); ((have e : lOver b to n len = (⟨to, m.since, false, 0⟩, false, 0) := by (have h9 : ¬ to.epoch ≤ b.cfg.epoch := by omega); simp_all [lOver]); exact ⟨congrArg rO e.symm, rfl⟩))
def one24 : Config := ⟨1, [⟨0, 1, true⟩, ⟨1, 1, true⟩]⟩
def two24 : Config := ⟨2, [⟨0, 1, true⟩, ⟨1, 1, true⟩, ⟨2, 2, false⟩]⟩
theorem ov1 : lOver kZero one24 0 0 = (⟨one24, 1, true, 0⟩, true, 0) := by rfl
theorem ov2 : lOver ⟨one24, 1, true, 0⟩ two24 0 7 = (⟨two24, 1, true, 7⟩, false, 0) := by rfl
theorem ov3 : lOver kZero two24 2 0 = (⟨two24, 2, false, 0⟩, true, 0) := by rfl
theorem ov4 : lOver ⟨two24, 1, true, 7⟩ one24 0 7 = (kZero, false, 240) := by rfl
theorem ova1 : AC Try.prog 12 [.ag (eK none kZero), .ag (eC none one24), I 0, I 0] [] (fun v bs => v = rO (⟨one24, 1, true, 0⟩, true, 0) ∧ bs = []) := by
  have h := over_ac kZero one24 0 0 (by decide); rwa [ov1] at h
theorem ova2 : AC Try.prog 12 [.ag (eK none ⟨one24, 1, true, 0⟩), .ag (eC none two24), I 0, I 7] [] (fun v bs => v = rO (⟨two24, 1, true, 7⟩, false, 0) ∧ bs = []) := by
  have h := over_ac ⟨one24, 1, true, 0⟩ two24 0 7 (by decide); rwa [ov2] at h
theorem ova3 : AC Try.prog 12 [.ag (eK none kZero), .ag (eC none two24), I 2, I 0] [] (fun v bs => v = rO (⟨two24, 2, false, 0⟩, true, 0) ∧ bs = []) := by
  have h := over_ac kZero two24 2 0 (by decide); rwa [ov3] at h
theorem ova4 : AC Try.prog 12 [.ag (eK none ⟨two24, 1, true, 7⟩), .ag (eC none one24), I 0, I 7] [] (fun v bs => v = rO (kZero, false, 240) ∧ bs = []) := by
  have h := over_ac ⟨two24, 1, true, 7⟩ one24 0 7 (by decide); rwa [ov4] at h
theorem awake_ac : AC Try.prog 24 [] [] (fun v bs' => v = B true ∧ bs' = []) := by
  refine AC.N Try.func24 Try.ntmps24 ?_
  intro X
  simp only [nx, Nat.reduceAdd, Nat.reduceSub, BEq.rfl]
  repeat' (first
    | ((first
    | ((with_reducible apply AP.k_any); first
             | refine AP.S ?_
             | (refine AP.Y ?_; dsimp only) | refine AP.G (fun hg => ?_) (fun hg => ?_)
      )
    | ((with_reducible apply AP.k_any); refine AP.C (ova1) ?_)
    | ((with_reducible apply AP.k_any); refine AP.C (ova2) ?_)
    | ((with_reducible apply AP.k_any); refine AP.C (ova3) ?_)
    | ((with_reducible apply AP.k_any); refine AP.C (ova4) ?_)
    | ((with_reducible apply AP.k_any); refine AP.C (fills_ac ⟨two24, 2, false, 0⟩ 7 6) ?_)
    | ((with_reducible apply AP.k_any); refine AP.C (fills_ac ⟨two24, 2, false, 0⟩ 7 7) ?_)
    | ((with_reducible apply AP.k_any); refine AP.C (fills_ac ⟨two24, 1, true, 7⟩ 0 9) ?_)
    | ((with_reducible apply AP.k_any); refine AP.gh (gh_fz (b := 0) (u := 1) rfl rfl (by (repeat' (first | exact FzC.nil | apply FzC.cons | exact FzV.hd | apply FzV.ag | exact FzV.same))) (by (repeat' (first | exact FzB.nil | apply FzB.c | apply FzB.same | exact FzC.nil | apply FzC.cons | exact FzV.hd | apply FzV.ag | exact FzV.same)))) ?_; first | simp only [roE, roC, AV.ro, ro_B, ro_M, ro_E] | simp only [roE, roC, AV.ro, ro_B])
    | ((with_reducible apply AP.k_any); refine AP.gh (gh_fz (b := 2) (u := 1) rfl rfl (by (repeat' (first | exact FzC.nil | apply FzC.cons | exact FzV.hd | apply FzV.ag | exact FzV.same))) (by (repeat' (first | exact FzB.nil | apply FzB.c | apply FzB.same | exact FzC.nil | apply FzC.cons | exact FzV.hd | apply FzV.ag | exact FzV.same)))) ?_; first | simp only [roE, roC, AV.ro, ro_B, ro_M, ro_E] | simp only [roE, roC, AV.ro, ro_B])
    )
      <;> (try simp only [nx, Nat.reduceAdd, Nat.reduceSub, BEq.rfl]))
    | ((with_reducible apply AP.k_nil); first
        | (refine AP.nil (hQ' _ ?_); clear hQ' Q')
        | refine AP.nil ?_)
    | ((with_reducible apply CP.k_reg); refine cp_regG fun Q' hQ' => ?_)
      | (with_reducible apply CP.k_reg1; refine cp_region ?_)
      | ((with_reducible apply CP.k_cond); first | refine cp_condT rfl ?_ | refine cp_condF rfl ?_ | refine cp_cond rfl (fun hc => ?_) (fun hc => ?_))
      | refine CP.go ?_
      | (simp only [List.append_eq, List.cons_append, List.nil_append]))
  (refine RetQ.B [] ?_; (try dsimp only [resV, List.getD_cons_succ, List.getD_cons_zero]); (exact ⟨rfl, rfl⟩))
end Go.Proofs.Ytkdbedbefojieaa
